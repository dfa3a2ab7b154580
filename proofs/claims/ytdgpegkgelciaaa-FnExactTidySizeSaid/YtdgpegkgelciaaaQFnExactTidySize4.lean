-- Ytdgpegkgelciaaa's texts for the statement FnExactTidySize, one behind the other (merge.py).
import Derived.Test.YtdgpegkgelciaaaQFnExactTidySize3
import Derived.Test.YtdgpegkgelciaaaQFnExactTidySize0
import Derived.BigGuardPart
import Derived.Deep.Cut
import Derived.Deep.CutRange
import Derived.WideMake
section
namespace Go.Proofs.Ytdgpegkgelciaaa.PA
open Go.RowKit Go.MapKept Go.Proofs.YtdgpegkgelciaaaW.PrintWords Go.Proofs.YtdgpegkgelciaaaW.PrintLast Go.Proofs.YtdgpegkgelciaaaW.PrintMore
def fmatch (name : ByteArray) (p : S45) : Bool := p.f0.toList == name.toList
def fidx (name : ByteArray) : List S45 → Int → Int
  | [], _ => -1
  | p :: l, i => if fmatch name p then i else fidx name l (i + 1)
set_option maxHeartbeats 2000000 in
set_option maxRecDepth 100000 in
theorem match_calls (g : Nat) (name : ByteArray) (p : S45) (v1 v2 v3 : Value) (w : World) (hg : w.cell? ⟨g, 0, none⟩ = some (.string name)) :
    Calls Try.prog 38 #[.agg #[.string p.f0, v1, v2, v3], .pointer (some ⟨g, 0, none⟩)] w fun e w' => e = .returned (.bool (fmatch name p)) ∧ Below w.heap.size w w' := by
  have hu45 := Try.underlying45
  have hg' : (w.alloc (.cells #[.string p.f0, v1, v2, v3] 45)).cell? ⟨g, 0, none⟩ = some (.string name) := pw_cell_below ((Below.refl _ w).alloc (Nat.le_refl _) _) hg
  go_enter Try.func38, Try.ntmps38
  go_wp2
  go_ret
  exact ⟨rfl, (Below.refl _ _).alloc (Nat.le_refl _) _⟩
set_option maxHeartbeats 4000000 in
set_option maxRecDepth 100000 in
theorem index_calls (A : Option Addr) (c : Nat) (l : List S45) (g : Nat) (name : ByteArray) (w : World) (hr : Kd.C k45 w A l.length l) (hn : l.length ≤ 10) (hg : w.cell? ⟨g, 0, none⟩ = some (.string name)) :
    Calls Try.prog 37 #[.slice A l.length c, .func (.func 38) #[] #[.pointer (some ⟨g, 0, none⟩)]] w fun e w' => e = .returned (.int .i64 (fidx name l 0)) ∧ Below w.heap.size w w' := by
  have hu45 := Try.underlying45
  have hu25 := Try.underlying25
  have HR := Aside0.mk hr
  clear hr
  go_enter Try.func37, Try.ntmps37
  go_wp2
  go_loopg [8] (l.length + 1) (fun kq v8 w' => ∃ j : Nat, v8 = .int .i64 j ∧ Aside0 (kq + j = l.length + 1 ∧ j ≤ l.length) ∧ Aside0 (fidx name l 0 = fidx name (l.drop j) j) ∧ Aside0 (Below w.heap.size w w'))
  case atStart => exact ⟨0, rfl, ⟨rfl, Nat.zero_le _⟩, ⟨rfl⟩, ⟨Below.refl _ _⟩⟩
  case round =>
    obtain ⟨j, rfl, HK, HF, HB⟩ := hrel
    cases gk with
    | zero => exact absurd HK.out (by omega)
    | succ k1 =>
      by_cases hj : j < l.length
      · have c0 : decide ((j : Int) < (l.length : Int)) = true := decide_eq_true (by omega)
        have c1 : decide (j < l.length) = true := decide_eq_true hj
        have p0 : 0 ≤ (j : Int) := by omega
        have q0 : (j : Int) < (l.length : Int) := by omega
        obtain ⟨ad, A1, c1', A2, c2', A3, c3', e, hx0, hx1, hx2, hx3, _⟩ := at_T45 HR.out (j : Int) p0 q0
        cases e
        replace hx0 := pw_cell_below HB.out hx0
        replace hx1 := pw_cell_below HB.out hx1
        replace hx2 := pw_cell_below HB.out hx2
        replace hx3 := pw_cell_below HB.out hx3
        simp only [Int.toNat_natCast] at hx0 hx1 hx2 hx3
        have hgw := pw_cell_below HB.out hg
        replace p0 := eq_true p0
        replace q0 := eq_true q0
        have e0 : l.drop j = rd_T45 l j :: l.drop (j + 1) := by rw [List.drop_eq_getElem_cons hj]; simp [rd_T45, hj]
        by_cases hm : fmatch name (rd_T45 l j) = true
        · go_wp2_with (go_at_call 38; refine (match_calls g name (rd_T45 l j) _ _ _ _ hgw).mono ?_; rintro e w2 ⟨rfl, hb2⟩)
          go_ret
          exact ⟨by rw [HF.out, e0, fidx, if_pos hm]; rfl, below_step HB.out hb2⟩
        · replace hm : fmatch name (rd_T45 l j) = false := by simpa using hm
          go_wp2_with (go_at_call 38; refine (match_calls g name (rd_T45 l j) _ _ _ _ hgw).mono ?_; rintro e w2 ⟨rfl, hb2⟩)
          go_roundg k1
          case measure => omega
          case rel => exact ⟨j + 1, by simp, ⟨by have := HK.out; omega, hj⟩, ⟨by rw [HF.out, e0, fidx, if_neg (by simp [hm])]; simp⟩, ⟨below_step HB.out hb2⟩⟩
      · have c0 : decide ((j : Int) < (l.length : Int)) = false := decide_eq_false (by omega)
        have c1 : decide (j < l.length) = false := decide_eq_false hj
        go_wp2
        go_ret
        have e : l.drop j = [] := List.drop_eq_nil_of_le (by omega)
        have h := HF.out
        rw [e] at h
        exact ⟨by rw [h]; rfl, HB.out⟩
theorem fidx_spec (name : ByteArray) : ∀ (l : List S45) (i : Nat), (fidx name l i = -1 ∧ l.find? (fmatch name) = none) ∨ ∃ j, ∃ h : j < l.length, fidx name l i = ((i + j : Nat) : Int) ∧ l.find? (fmatch name) = some l[j]
  | [], i => .inl ⟨rfl, rfl⟩
  | p :: l, i => by
    by_cases hm : fmatch name p = true
    · exact .inr ⟨0, by simp, by simp [fidx, hm], by simp [hm]⟩
    · rcases fidx_spec name l (i + 1) with ⟨h1, h2⟩ | ⟨j, h, h1, h2⟩
      · exact .inl ⟨by simpa [fidx, hm] using h1, by simp [hm, h2]⟩
      · refine .inr ⟨j + 1, by simpa using h, ?_, by simp [hm, h2]⟩
        have : fidx name (p :: l) i = fidx name l ((i + 1 : Nat) : Int) := by simp [fidx, hm]
        rw [this, h1]; congr 1; omega
def pfind (l : List S45) (name : ByteArray) : S45 × Bool := match l.find? (fmatch name) with | some p => (p, true) | none => (z45, false)
set_option maxHeartbeats 4000000 in
set_option maxRecDepth 100000 in
theorem find_calls (A : Option Addr) (c : Nat) (l : List S45) (name : ByteArray) (w : World) (hr : Kd.C k45 w A l.length l) (hn : l.length ≤ 10) :
    Calls Try.prog 21 #[.slice A l.length c, .string name] w fun e w' => (∃ A1 c1 A2 c2 A3 c3, e = .returned (.tuple #[.agg #[.string (pfind l name).1.f0, .slice A1 (pfind l name).1.f1.length c1, .slice A2 (pfind l name).1.f2.f0.length c2, .slice A3 (pfind l name).1.f2.f1.length c3], .bool (pfind l name).2])) ∧ Below w.heap.size w w' := by
  have hu45 := Try.underlying45
  have hu25 := Try.underlying25
  obtain ⟨i0, hi0, _, hsz, _⟩ := info_parts info45
  have hg0 : (w.alloc (.cells #[.string name] 9)).cell? ⟨w.heap.size, 0, none⟩ = some (.string name) := (blk_cell (by simpa using heap_alloc_new w _) 0).trans rfl
  have hg : ((w.alloc (.cells #[.string name] 9)).alloc (.cells #[.string ⟨#[]⟩, .slice none 0 0, .slice none 0 0, .slice none 0 0] 45)).cell? ⟨w.heap.size, 0, none⟩ = some (.string name) := pw_cell_below ((Below.refl _ _).alloc (Nat.le_refl _) _) hg0
  have hB : Below w.heap.size w ((w.alloc (.cells #[.string name] 9)).alloc (.cells #[.string ⟨#[]⟩, .slice none 0 0, .slice none 0 0, .slice none 0 0] 45)) := ((Below.refl _ w).alloc (Nat.le_refl _) _).alloc (by simp) _
  have hr2 := Kd.C_below hr hB
  have hbk : ((w.alloc (.cells #[.string name] 9)).alloc (.cells #[.string ⟨#[]⟩, .slice none 0 0, .slice none 0 0, .slice none 0 0] 45)).heap[w.heap.size + 1]? = some (.cells #[.string ⟨#[]⟩, .slice none 0 0, .slice none 0 0, .slice none 0 0] 45 (0, 0)) := by simpa using heap_alloc_new (w.alloc (.cells #[.string name] 9)) _
  have hix := index_calls A c l _ name _ hr2 hn hg
  rcases fidx_spec name l 0 with ⟨h1, h2⟩ | ⟨j, hj, h1, h2⟩
  · have hp : pfind l name = (z45, false) := by simp [pfind, h2]
    rw [show fidx name l 0 = -1 from h1] at hix
    go_enter Try.func21, Try.ntmps21
    go_wp2_with (go_at_call 37; refine hix.mono ?_; rintro e w2 ⟨rfl, hb2⟩; have hb3 := blk_below hbk hb2; have q0 : w2.cell? ⟨w.heap.size + 1, 0, none⟩ = some (.string ⟨#[]⟩) := (blk_cell hb3 0).trans rfl; have q1 : w2.cell? ⟨w.heap.size + 1, 1, none⟩ = some (.slice none 0 0) := (blk_cell hb3 1).trans rfl; have q2 : w2.cell? ⟨w.heap.size + 1, 2, none⟩ = some (.slice none 0 0) := (blk_cell hb3 2).trans rfl; have q3 : w2.cell? ⟨w.heap.size + 1, 3, none⟩ = some (.slice none 0 0) := (blk_cell hb3 3).trans rfl; have f0 := blk_frozen hb3 0; have f1 := blk_frozen hb3 1; have f2 := blk_frozen hb3 2; have f3 := blk_frozen hb3 3)
    refine bodyPost_ret (results_ct rfl _ _ (w.heap.size + 1) 45 #[.string ⟨#[]⟩, .slice none 0 0, .slice none 0 0, .slice none 0 0] (0, 0) _ rfl (blk_set (blk_set (blk_set (blk_set hb3 0 _) 1 _) 2 _) 3 _) Try.underlying45 rfl (by kernel_rfl)) rfl ?_
    refine ⟨⟨none, 0, none, 0, none, 0, by rw [hp]; rfl⟩, ?_⟩
    have := hB.trans (hb2.mono hB.size)
    exact (((this.setCell (by simp) _).setCell (by simp) _).setCell (by simp) _).setCell (by simp) _
  · have hp : pfind l name = (l[j], true) := by simp [pfind, h2]
    have hj' : l[j] = rd_T45 l (j : Int) := by simp [rd_T45, hj]
    rw [show fidx name l 0 = (j : Int) from by rw [show ((0 : Int) = ((0 : Nat) : Int)) from rfl, h1]; simp] at hix
    have p0 : 0 ≤ (j : Int) := by omega
    have p1 : decide ((j : Int) < 0) = false := decide_eq_false (by omega)
    have p2 : 0 ≤ (j : Int) := by omega
    have q0 : (j : Int) < (l.length : Int) := by omega
    have c1 : decide (j < l.length) = true := decide_eq_true hj
    obtain ⟨ad, A1, c1', A2, c2', A3, c3', e, hx0, hx1, hx2, hx3, _⟩ := at_T45 hr2 (j : Int) p0 q0
    cases e
    simp only [Int.toNat_natCast] at hx0 hx1 hx2 hx3
    replace p2 := eq_true p2
    replace q0 := eq_true q0
    go_enter Try.func21, Try.ntmps21
    go_wp2_with (go_at_call 37; refine hix.mono ?_; rintro e w2 ⟨rfl, hb2⟩; have hb3 := blk_below hbk hb2; have y0 := pw_cell_below hb2 hx0; have y1 := pw_cell_below hb2 hx1; have y2 := pw_cell_below hb2 hx2; have y3 := pw_cell_below hb2 hx3; have q0 : w2.cell? ⟨w.heap.size + 1, 0, none⟩ = some (.string ⟨#[]⟩) := (blk_cell hb3 0).trans rfl; have q1 : w2.cell? ⟨w.heap.size + 1, 1, none⟩ = some (.slice none 0 0) := (blk_cell hb3 1).trans rfl; have q2 : w2.cell? ⟨w.heap.size + 1, 2, none⟩ = some (.slice none 0 0) := (blk_cell hb3 2).trans rfl; have q3 : w2.cell? ⟨w.heap.size + 1, 3, none⟩ = some (.slice none 0 0) := (blk_cell hb3 3).trans rfl; have f0 := blk_frozen hb3 0; have f1 := blk_frozen hb3 1; have f2 := blk_frozen hb3 2; have f3 := blk_frozen hb3 3)
    refine bodyPost_ret (results_ct rfl _ _ (w.heap.size + 1) 45 #[.string (rd_T45 l j).f0, .slice A1 (rd_T45 l j).f1.length c1', .slice A2 (rd_T45 l j).f2.f0.length c2', .slice A3 (rd_T45 l j).f2.f1.length c3'] (0, 0) _ rfl (blk_set (blk_set (blk_set (blk_set hb3 0 _) 1 _) 2 _) 3 _) Try.underlying45 rfl (by kernel_rfl)) rfl ?_
    refine ⟨⟨A1, c1', A2, c2', A3, c3', by rw [hp, hj']; rfl⟩, ?_⟩
    have := hB.trans (hb2.mono hB.size)
    exact (((this.setCell (by simp) _).setCell (by simp) _).setCell (by simp) _).setCell (by simp) _
end Go.Proofs.Ytdgpegkgelciaaa.PA
end
section
namespace Go.Proofs.Ytdgpegkgelciaaa.PA
open Go.RowKit Go.Proofs.YtdgpegkgelciaaaW.PrintWords Go.Proofs.YtdgpegkgelciaaaW.PrintLast Go.Proofs.YtdgpegkgelciaaaW.PrintMore
attribute [local go_sem] max2_int min2_int max_two min_two max_three min_three max_four min_four
set_option linter.unusedVariables false
set_option linter.unusedSimpArgs false
def impl_pureScope_bound.f (a0 : Fv) (a1 : ByteArray) : Option Bool := some (a0.b a1)
theorem impl_pureScope_bound.calls (a0 : Fv) (a1 : ByteArray) (r : Bool) (w : World) (hG : HfG a0 w) (h : impl_pureScope_bound.f a0 a1 = some r) :
  Calls Try.prog 56 #[a0.x, .string a1] w fun e w' => e = .returned (.bool r) ∧ Below w.heap.size w w' := by
 obtain rfl := Option.some.inj h
 exact hG w (Below.refl _ _) a1
end Go.Proofs.Ytdgpegkgelciaaa.PA
end
section
namespace Go.Proofs.Ytdgpegkgelciaaa.PA
open Go.RowKit Go.Proofs.YtdgpegkgelciaaaW.PrintWords Go.Proofs.YtdgpegkgelciaaaW.PrintLast Go.Proofs.YtdgpegkgelciaaaW.PrintMore
attribute [local go_sem] max2_int min2_int max_two min_two max_three min_three max_four min_four
set_option linter.unusedVariables false
set_option linter.unusedSimpArgs false
mutual
def impl_pureName.j0 : Nat → ByteArray → Bool → Option (Bool)
 | 0, _, _ => none
 | k + 1, x0, x13 => if x13 = true then (some false) else (impl_pureName.l0 k x0 (x0.size : Int) 0)
def impl_pureName.l0 : Nat → ByteArray → Int → Int → Option (Bool)
 | 0, _, _, _ => none
 | k + 1, x0, x15, x16 => if x16 < x15 then (if 0 ≤ x16 then (if x16 < (x0.size : Int) then (if (bt x0 x16) ≥ 97 then (if (bt x0 x16) ≤ 122 then (impl_pureName.l0 k x0 x15 (wrap64 (x16 + 1))) else (if (bt x0 x16) ≥ 65 then (if ((bt x0 x16) ≤ 90) then (impl_pureName.l0 k x0 x15 (wrap64 (x16 + 1))) else (if (bt x0 x16) < 48 then (if (bt x0 x16) = 95 then (impl_pureName.l0 k x0 x15 (wrap64 (x16 + 1))) else (some false)) else (if (bt x0 x16) > 57 then (if (bt x0 x16) = 95 then (impl_pureName.l0 k x0 x15 (wrap64 (x16 + 1))) else (some false)) else (impl_pureName.l0 k x0 x15 (wrap64 (x16 + 1)))))) else (if (bt x0 x16) < 48 then (if (bt x0 x16) = 95 then (impl_pureName.l0 k x0 x15 (wrap64 (x16 + 1))) else (some false)) else (if (bt x0 x16) > 57 then (if (bt x0 x16) = 95 then (impl_pureName.l0 k x0 x15 (wrap64 (x16 + 1))) else (some false)) else (impl_pureName.l0 k x0 x15 (wrap64 (x16 + 1))))))) else (if (bt x0 x16) ≥ 65 then (if ((bt x0 x16) ≤ 90) then (impl_pureName.l0 k x0 x15 (wrap64 (x16 + 1))) else (if (bt x0 x16) < 48 then (if (bt x0 x16) = 95 then (impl_pureName.l0 k x0 x15 (wrap64 (x16 + 1))) else (some false)) else (if (bt x0 x16) > 57 then (if (bt x0 x16) = 95 then (impl_pureName.l0 k x0 x15 (wrap64 (x16 + 1))) else (some false)) else (impl_pureName.l0 k x0 x15 (wrap64 (x16 + 1)))))) else (if (bt x0 x16) < 48 then (if (bt x0 x16) = 95 then (impl_pureName.l0 k x0 x15 (wrap64 (x16 + 1))) else (some false)) else (if (bt x0 x16) > 57 then (if (bt x0 x16) = 95 then (impl_pureName.l0 k x0 x15 (wrap64 (x16 + 1))) else (some false)) else (impl_pureName.l0 k x0 x15 (wrap64 (x16 + 1))))))) else (none)) else (none)) else (some true)
end
def impl_pureName.f (k : Nat) (a0 : ByteArray) : Option (Bool) := if (a0.size : Int) < 1 then (impl_pureName.j0 k a0 true) else (impl_pureName.j0 k a0 (decide ((a0.size : Int) > 12)))
theorem impl_pureName.mono_l : ∀ k, (∀ y0 y1, LeO (impl_pureName.j0 k y0 y1) (impl_pureName.j0 (k + 1) y0 y1)) ∧ (∀ y0 y1 y2, LeO (impl_pureName.l0 k y0 y1 y2) (impl_pureName.l0 (k + 1) y0 y1 y2))
 | 0 => ⟨fun _ _ r h => by simp [impl_pureName.j0] at h, fun _ _ _ r h => by simp [impl_pureName.l0] at h⟩
 | k + 1 => by
  obtain ⟨ih0, ih1⟩ := impl_pureName.mono_l k
  refine ⟨?_, ?_⟩
  ·intro y0 y1
   unfold impl_pureName.j0
   repeat' first
   | (with_reducible exact ih0 _ _)
   | (with_reducible exact ih1 _ _ _)
   | (with_reducible exact LeO.refl _)
   | (with_reducible exact LeO.none _)
   | (with_reducible refine LeO.ite ?_ ?_)
   | (with_reducible refine LeO.bind ?_ (fun _ => ?_))
   | exact ih0 _ _
   | exact ih1 _ _ _
   | exact LeO.none _
   | refine LeO.ite ?_ ?_
   | refine LeO.bind ?_ (fun _ => ?_)
  ·intro y0 y1 y2
   unfold impl_pureName.l0
   repeat' first
   | (with_reducible exact ih0 _ _)
   | (with_reducible exact ih1 _ _ _)
   | (with_reducible exact LeO.refl _)
   | (with_reducible exact LeO.none _)
   | (with_reducible refine LeO.ite ?_ ?_)
   | (with_reducible refine LeO.bind ?_ (fun _ => ?_))
   | exact ih0 _ _
   | exact ih1 _ _ _
   | exact LeO.none _
   | refine LeO.ite ?_ ?_
   | refine LeO.bind ?_ (fun _ => ?_)
theorem impl_pureName.mono : ∀ a0 k, LeO (impl_pureName.f k a0) (impl_pureName.f (k + 1) a0) := by
 intro a0 k
 obtain ⟨ih0, ih1⟩ := impl_pureName.mono_l k
 unfold impl_pureName.f
 repeat' first
   | (with_reducible exact ih0 _ _)
   | (with_reducible exact ih1 _ _ _)
   | (with_reducible exact LeO.refl _)
   | (with_reducible exact LeO.none _)
   | (with_reducible refine LeO.ite ?_ ?_)
   | (with_reducible refine LeO.bind ?_ (fun _ => ?_))
   | exact ih0 _ _
   | exact ih1 _ _ _
   | exact LeO.none _
   | refine LeO.ite ?_ ?_
   | refine LeO.bind ?_ (fun _ => ?_)
set_option maxHeartbeats 8000000 in
set_option maxRecDepth 100000 in
theorem impl_pureName.calls (k : Nat) (a0 : ByteArray) (r : Bool) (w : World) (h : impl_pureName.f k a0 = some r) :
  Calls Try.prog 22 #[.string a0] w fun e w' => e = .returned (.bool r) ∧ Drawn0 w w' := by
 have H : (if (a0.size : Int) < 1 then (impl_pureName.j0 k a0 true) else (impl_pureName.j0 k a0 (decide ((a0.size : Int) > 12)))) = some r := h
 clear h
 have HC2 := Aside0.mk H
 clear H
 go_enter Try.func22, Try.ntmps22
 go_upto_region 1 with (fail)
 go_cut [13] (fun v13 wc => ∃ (kq : Nat) (x13_1 : Bool), v13 = .bool x13_1 ∧ Aside0 (impl_pureName.j0 kq a0 x13_1 = some r) ∧ Aside0 (kq ≤ k) ∧ Drawn0 w wc)
 case first =>
  have H := HC2.out
  clear HC2
  by_cases c3 : (a0.size : Int) < 1
  ·rw [if_pos c3] at H
   have c3b0 : decide ((a0.size : Int) < 1) = true := decide_eq_true c3
   have c3b1 : decide (a0.size < 1) = true := decide_eq_true (by omega)
   clear c3
   (first | rw [c3b0] | (simp only [i64_w, i32_w]; rw [c3b0]) | skip)
   have H' := Aside0.mk H
   clear H
   go_wp2
   go_meet
   case rel => exact ⟨_, (true), y7, H', ⟨y33⟩, y12⟩
  ·rw [if_neg c3] at H
   have c3b0 : decide ((a0.size : Int) < 1) = false := decide_eq_false c3
   have c3b1 : decide (a0.size < 1) = false := decide_eq_false (by omega)
   clear c3
   (first | rw [c3b0] | (simp only [i64_w, i32_w]; rw [c3b0]) | skip)
   have H' := Aside0.mk H
   clear H
   go_wp2
   go_meet
   case rel => exact ⟨_, (decide ((a0.size : Int) > 12)), y7, H', ⟨y33⟩, y12⟩
 case rest =>
  clear HC2
  try clear c2
  try clear p2
  try clear c3
  try clear c3b0
  try clear c3b1
  obtain ⟨kq, x13_1, rfl, HA, HJ1, ⟨mc1, rfl⟩⟩ := hcut
  cases kq with
  | zero => exact absurd HA.out (by simp [impl_pureName.j0])
  | succ kj1 =>
   have H := HA.out
   clear HA
   simp only [impl_pureName.j0] at H
   by_cases c4 : x13_1 = true
   ·subst c4
    rw [if_pos rfl] at H
    obtain rfl := Option.some.inj H
    go_wp2
    go_ret
    exact ⟨y7, y12⟩
   ·replace c4 := Bool.eq_false_iff.mpr c4
    subst c4
    rw [if_neg (show ¬ (false = true) by decide)] at H
    have H' := Aside0.mk H
    clear H
    go_wp2
    go_loopg [16] kj1 (fun kq v16 w' => ∃ (x16_2 : Int), v16 = .int .i64 x16_2 ∧ Aside0 (impl_pureName.l0 kq a0 (a0.size : Int) x16_2 = some r) ∧ Aside0 (kq ≤ kj1) ∧ Drawn0 w w')
    case atStart => exact ⟨(0), y7, H', ⟨Nat.le_refl _⟩, y12⟩
    case round =>
     clear H'
     try clear c1
     try clear c2
     try clear p2
     try clear c3
     try clear c3b0
     try clear c3b1
     try clear c4
     try clear p2
     obtain ⟨x16_2, rfl, HA, HK2, ⟨m2, rfl⟩⟩ := hrel
     cases gk with
     | zero => exact absurd HA.out (by simp [impl_pureName.l0])
     | succ k2 =>
      have H := HA.out
      clear HA
      simp only [impl_pureName.l0] at H
      by_cases c5 : x16_2 < (a0.size : Int)
      ·rw [if_pos c5] at H
       have c5b0 : decide (x16_2 < (a0.size : Int)) = true := decide_eq_true c5
       clear c5
       by_cases c6 : 0 ≤ x16_2
       ·rw [if_pos c6] at H
        have c6b0 : decide (0 ≤ x16_2) = true := decide_eq_true c6
        clear c6
        by_cases c7 : x16_2 < (a0.size : Int)
        ·rw [if_pos c7] at H
         have c7b0 : decide (x16_2 < (a0.size : Int)) = true := decide_eq_true c7
         clear c7
         by_cases c9 : (bt a0 x16_2) ≥ 97
         ·rw [if_pos c9] at H
          have c9b0 : decide (97 ≤ (bt a0 x16_2)) = true := decide_eq_true c9
          clear c9
          by_cases c10 : (bt a0 x16_2) ≤ 122
          ·rw [if_pos c10] at H
           have c10b0 : decide ((bt a0 x16_2) ≤ 122) = true := decide_eq_true c10
           clear c10
           have H' := Aside0.mk H
           clear H
           have p8 : 0 ≤ (x16_2 : Int) := of_decide_eq_true y4
           have q8 : x16_2 < (a0.size : Int) := of_decide_eq_true y4
           have hx8 := bt_at a0 x16_2
           replace p8 := eq_true p8
           replace q8 := eq_true q8
           go_wp2
           go_roundg k2
           case measure => have := HJ1.out; have := HK2.out; omega
           case rel => exact ⟨(wrap64 (x16_2 + 1)), y7, H', ⟨(y25 HJ1.out HK2.out)⟩, y12⟩
          ·rw [if_neg c10] at H
           have c10b0 : decide ((bt a0 x16_2) ≤ 122) = false := decide_eq_false c10
           clear c10
           by_cases c11 : (bt a0 x16_2) ≥ 65
           ·rw [if_pos c11] at H
            have c11b0 : decide (65 ≤ (bt a0 x16_2)) = true := decide_eq_true c11
            clear c11
            by_cases c12 : ((bt a0 x16_2) ≤ 90)
            ·rw [if_pos c12] at H
             have c12b0 : decide ((bt a0 x16_2) ≤ 90) = true := decide_eq_true c12
             clear c12
             have H' := Aside0.mk H
             clear H
             have p8 : 0 ≤ (x16_2 : Int) := of_decide_eq_true y4
             have q8 : x16_2 < (a0.size : Int) := of_decide_eq_true y4
             have hx8 := bt_at a0 x16_2
             replace p8 := eq_true p8
             replace q8 := eq_true q8
             go_wp2
             go_roundg k2
             case measure => have := HJ1.out; have := HK2.out; omega
             case rel => exact ⟨(wrap64 (x16_2 + 1)), y7, H', ⟨(y25 HJ1.out HK2.out)⟩, y12⟩
            ·rw [if_neg c12] at H
             have c12b0 : decide ((bt a0 x16_2) ≤ 90) = false := decide_eq_false c12
             clear c12
             by_cases c13 : (bt a0 x16_2) < 48
             ·rw [if_pos c13] at H
              have c13b0 : decide ((bt a0 x16_2) < 48) = true := decide_eq_true c13
              clear c13
              by_cases c14 : (bt a0 x16_2) = 95
              ·rw [if_pos c14] at H
               have c14b0 : ((bt a0 x16_2) == 95) = true := beq_iff_eq.mpr c14
               have c14b1 : ((bt a0 x16_2) != 95) = false := bne_eq_false_iff_eq.mpr c14
               clear c14
               have H' := Aside0.mk H
               clear H
               have p8 : 0 ≤ (x16_2 : Int) := of_decide_eq_true y4
               have q8 : x16_2 < (a0.size : Int) := of_decide_eq_true y4
               have hx8 := bt_at a0 x16_2
               replace p8 := eq_true p8
               replace q8 := eq_true q8
               go_wp2
               go_roundg k2
               case measure => have := HJ1.out; have := HK2.out; omega
               case rel => exact ⟨(wrap64 (x16_2 + 1)), y7, H', ⟨(y25 HJ1.out HK2.out)⟩, y12⟩
              ·rw [if_neg c14] at H
               have c14b0 : ((bt a0 x16_2) == 95) = false := beq_eq_false_iff_ne.mpr c14
               have c14b1 : ((bt a0 x16_2) != 95) = true := bne_iff_ne.mpr c14
               obtain rfl := Option.some.inj H
               have p8 : 0 ≤ (x16_2 : Int) := of_decide_eq_true y4
               have q8 : x16_2 < (a0.size : Int) := of_decide_eq_true y4
               have hx8 := bt_at a0 x16_2
               replace p8 := eq_true p8
               replace q8 := eq_true q8
               go_wp2
               go_ret
               exact ⟨y7, y12⟩
             ·rw [if_neg c13] at H
              have c13b0 : decide ((bt a0 x16_2) < 48) = false := decide_eq_false c13
              clear c13
              by_cases c15 : (bt a0 x16_2) > 57
              ·rw [if_pos c15] at H
               have c15b0 : decide (57 < (bt a0 x16_2)) = true := decide_eq_true c15
               clear c15
               by_cases c16 : (bt a0 x16_2) = 95
               ·rw [if_pos c16] at H
                have c16b0 : ((bt a0 x16_2) == 95) = true := beq_iff_eq.mpr c16
                have c16b1 : ((bt a0 x16_2) != 95) = false := bne_eq_false_iff_eq.mpr c16
                clear c16
                have H' := Aside0.mk H
                clear H
                have p8 : 0 ≤ (x16_2 : Int) := of_decide_eq_true y4
                have q8 : x16_2 < (a0.size : Int) := of_decide_eq_true y4
                have hx8 := bt_at a0 x16_2
                replace p8 := eq_true p8
                replace q8 := eq_true q8
                go_wp2
                go_roundg k2
                case measure => have := HJ1.out; have := HK2.out; omega
                case rel => exact ⟨(wrap64 (x16_2 + 1)), y7, H', ⟨(y25 HJ1.out HK2.out)⟩, y12⟩
               ·rw [if_neg c16] at H
                have c16b0 : ((bt a0 x16_2) == 95) = false := beq_eq_false_iff_ne.mpr c16
                have c16b1 : ((bt a0 x16_2) != 95) = true := bne_iff_ne.mpr c16
                obtain rfl := Option.some.inj H
                have p8 : 0 ≤ (x16_2 : Int) := of_decide_eq_true y4
                have q8 : x16_2 < (a0.size : Int) := of_decide_eq_true y4
                have hx8 := bt_at a0 x16_2
                replace p8 := eq_true p8
                replace q8 := eq_true q8
                go_wp2
                go_ret
                exact ⟨y7, y12⟩
              ·rw [if_neg c15] at H
               have c15b0 : decide (57 < (bt a0 x16_2)) = false := decide_eq_false c15
               clear c15
               have H' := Aside0.mk H
               clear H
               have p8 : 0 ≤ (x16_2 : Int) := of_decide_eq_true y4
               have q8 : x16_2 < (a0.size : Int) := of_decide_eq_true y4
               have hx8 := bt_at a0 x16_2
               replace p8 := eq_true p8
               replace q8 := eq_true q8
               go_wp2
               go_roundg k2
               case measure => have := HJ1.out; have := HK2.out; omega
               case rel => exact ⟨(wrap64 (x16_2 + 1)), y7, H', ⟨(y25 HJ1.out HK2.out)⟩, y12⟩
           ·rw [if_neg c11] at H
            have c11b0 : decide (65 ≤ (bt a0 x16_2)) = false := decide_eq_false c11
            clear c11
            by_cases c17 : (bt a0 x16_2) < 48
            ·rw [if_pos c17] at H
             have c17b0 : decide ((bt a0 x16_2) < 48) = true := decide_eq_true c17
             clear c17
             by_cases c18 : (bt a0 x16_2) = 95
             ·rw [if_pos c18] at H
              have c18b0 : ((bt a0 x16_2) == 95) = true := beq_iff_eq.mpr c18
              have c18b1 : ((bt a0 x16_2) != 95) = false := bne_eq_false_iff_eq.mpr c18
              clear c18
              have H' := Aside0.mk H
              clear H
              have p8 : 0 ≤ (x16_2 : Int) := of_decide_eq_true y4
              have q8 : x16_2 < (a0.size : Int) := of_decide_eq_true y4
              have hx8 := bt_at a0 x16_2
              replace p8 := eq_true p8
              replace q8 := eq_true q8
              go_wp2
              go_roundg k2
              case measure => have := HJ1.out; have := HK2.out; omega
              case rel => exact ⟨(wrap64 (x16_2 + 1)), y7, H', ⟨(y25 HJ1.out HK2.out)⟩, y12⟩
             ·rw [if_neg c18] at H
              have c18b0 : ((bt a0 x16_2) == 95) = false := beq_eq_false_iff_ne.mpr c18
              have c18b1 : ((bt a0 x16_2) != 95) = true := bne_iff_ne.mpr c18
              obtain rfl := Option.some.inj H
              have p8 : 0 ≤ (x16_2 : Int) := of_decide_eq_true y4
              have q8 : x16_2 < (a0.size : Int) := of_decide_eq_true y4
              have hx8 := bt_at a0 x16_2
              replace p8 := eq_true p8
              replace q8 := eq_true q8
              go_wp2
              go_ret
              exact ⟨y7, y12⟩
            ·rw [if_neg c17] at H
             have c17b0 : decide ((bt a0 x16_2) < 48) = false := decide_eq_false c17
             clear c17
             by_cases c19 : (bt a0 x16_2) > 57
             ·rw [if_pos c19] at H
              have c19b0 : decide (57 < (bt a0 x16_2)) = true := decide_eq_true c19
              clear c19
              by_cases c20 : (bt a0 x16_2) = 95
              ·rw [if_pos c20] at H
               have c20b0 : ((bt a0 x16_2) == 95) = true := beq_iff_eq.mpr c20
               have c20b1 : ((bt a0 x16_2) != 95) = false := bne_eq_false_iff_eq.mpr c20
               clear c20
               have H' := Aside0.mk H
               clear H
               have p8 : 0 ≤ (x16_2 : Int) := of_decide_eq_true y4
               have q8 : x16_2 < (a0.size : Int) := of_decide_eq_true y4
               have hx8 := bt_at a0 x16_2
               replace p8 := eq_true p8
               replace q8 := eq_true q8
               go_wp2
               go_roundg k2
               case measure => have := HJ1.out; have := HK2.out; omega
               case rel => exact ⟨(wrap64 (x16_2 + 1)), y7, H', ⟨(y25 HJ1.out HK2.out)⟩, y12⟩
              ·rw [if_neg c20] at H
               have c20b0 : ((bt a0 x16_2) == 95) = false := beq_eq_false_iff_ne.mpr c20
               have c20b1 : ((bt a0 x16_2) != 95) = true := bne_iff_ne.mpr c20
               obtain rfl := Option.some.inj H
               have p8 : 0 ≤ (x16_2 : Int) := of_decide_eq_true y4
               have q8 : x16_2 < (a0.size : Int) := of_decide_eq_true y4
               have hx8 := bt_at a0 x16_2
               replace p8 := eq_true p8
               replace q8 := eq_true q8
               go_wp2
               go_ret
               exact ⟨y7, y12⟩
             ·rw [if_neg c19] at H
              have c19b0 : decide (57 < (bt a0 x16_2)) = false := decide_eq_false c19
              clear c19
              have H' := Aside0.mk H
              clear H
              have p8 : 0 ≤ (x16_2 : Int) := of_decide_eq_true y4
              have q8 : x16_2 < (a0.size : Int) := of_decide_eq_true y4
              have hx8 := bt_at a0 x16_2
              replace p8 := eq_true p8
              replace q8 := eq_true q8
              go_wp2
              go_roundg k2
              case measure => have := HJ1.out; have := HK2.out; omega
              case rel => exact ⟨(wrap64 (x16_2 + 1)), y7, H', ⟨(y25 HJ1.out HK2.out)⟩, y12⟩
         ·rw [if_neg c9] at H
          have c9b0 : decide (97 ≤ (bt a0 x16_2)) = false := decide_eq_false c9
          clear c9
          by_cases c21 : (bt a0 x16_2) ≥ 65
          ·rw [if_pos c21] at H
           have c21b0 : decide (65 ≤ (bt a0 x16_2)) = true := decide_eq_true c21
           clear c21
           by_cases c22 : ((bt a0 x16_2) ≤ 90)
           ·rw [if_pos c22] at H
            have c22b0 : decide ((bt a0 x16_2) ≤ 90) = true := decide_eq_true c22
            clear c22
            have H' := Aside0.mk H
            clear H
            have p8 : 0 ≤ (x16_2 : Int) := of_decide_eq_true y4
            have q8 : x16_2 < (a0.size : Int) := of_decide_eq_true y4
            have hx8 := bt_at a0 x16_2
            replace p8 := eq_true p8
            replace q8 := eq_true q8
            go_wp2
            go_roundg k2
            case measure => have := HJ1.out; have := HK2.out; omega
            case rel => exact ⟨(wrap64 (x16_2 + 1)), y7, H', ⟨(y25 HJ1.out HK2.out)⟩, y12⟩
           ·rw [if_neg c22] at H
            have c22b0 : decide ((bt a0 x16_2) ≤ 90) = false := decide_eq_false c22
            clear c22
            by_cases c23 : (bt a0 x16_2) < 48
            ·rw [if_pos c23] at H
             have c23b0 : decide ((bt a0 x16_2) < 48) = true := decide_eq_true c23
             clear c23
             by_cases c24 : (bt a0 x16_2) = 95
             ·rw [if_pos c24] at H
              have c24b0 : ((bt a0 x16_2) == 95) = true := beq_iff_eq.mpr c24
              have c24b1 : ((bt a0 x16_2) != 95) = false := bne_eq_false_iff_eq.mpr c24
              clear c24
              have H' := Aside0.mk H
              clear H
              have p8 : 0 ≤ (x16_2 : Int) := of_decide_eq_true y4
              have q8 : x16_2 < (a0.size : Int) := of_decide_eq_true y4
              have hx8 := bt_at a0 x16_2
              replace p8 := eq_true p8
              replace q8 := eq_true q8
              go_wp2
              go_roundg k2
              case measure => have := HJ1.out; have := HK2.out; omega
              case rel => exact ⟨(wrap64 (x16_2 + 1)), y7, H', ⟨(y25 HJ1.out HK2.out)⟩, y12⟩
             ·rw [if_neg c24] at H
              have c24b0 : ((bt a0 x16_2) == 95) = false := beq_eq_false_iff_ne.mpr c24
              have c24b1 : ((bt a0 x16_2) != 95) = true := bne_iff_ne.mpr c24
              obtain rfl := Option.some.inj H
              have p8 : 0 ≤ (x16_2 : Int) := of_decide_eq_true y4
              have q8 : x16_2 < (a0.size : Int) := of_decide_eq_true y4
              have hx8 := bt_at a0 x16_2
              replace p8 := eq_true p8
              replace q8 := eq_true q8
              go_wp2
              go_ret
              exact ⟨y7, y12⟩
            ·rw [if_neg c23] at H
             have c23b0 : decide ((bt a0 x16_2) < 48) = false := decide_eq_false c23
             clear c23
             by_cases c25 : (bt a0 x16_2) > 57
             ·rw [if_pos c25] at H
              have c25b0 : decide (57 < (bt a0 x16_2)) = true := decide_eq_true c25
              clear c25
              by_cases c26 : (bt a0 x16_2) = 95
              ·rw [if_pos c26] at H
               have c26b0 : ((bt a0 x16_2) == 95) = true := beq_iff_eq.mpr c26
               have c26b1 : ((bt a0 x16_2) != 95) = false := bne_eq_false_iff_eq.mpr c26
               clear c26
               have H' := Aside0.mk H
               clear H
               have p8 : 0 ≤ (x16_2 : Int) := of_decide_eq_true y4
               have q8 : x16_2 < (a0.size : Int) := of_decide_eq_true y4
               have hx8 := bt_at a0 x16_2
               replace p8 := eq_true p8
               replace q8 := eq_true q8
               go_wp2
               go_roundg k2
               case measure => have := HJ1.out; have := HK2.out; omega
               case rel => exact ⟨(wrap64 (x16_2 + 1)), y7, H', ⟨(y25 HJ1.out HK2.out)⟩, y12⟩
              ·rw [if_neg c26] at H
               have c26b0 : ((bt a0 x16_2) == 95) = false := beq_eq_false_iff_ne.mpr c26
               have c26b1 : ((bt a0 x16_2) != 95) = true := bne_iff_ne.mpr c26
               obtain rfl := Option.some.inj H
               have p8 : 0 ≤ (x16_2 : Int) := of_decide_eq_true y4
               have q8 : x16_2 < (a0.size : Int) := of_decide_eq_true y4
               have hx8 := bt_at a0 x16_2
               replace p8 := eq_true p8
               replace q8 := eq_true q8
               go_wp2
               go_ret
               exact ⟨y7, y12⟩
             ·rw [if_neg c25] at H
              have c25b0 : decide (57 < (bt a0 x16_2)) = false := decide_eq_false c25
              clear c25
              have H' := Aside0.mk H
              clear H
              have p8 : 0 ≤ (x16_2 : Int) := of_decide_eq_true y4
              have q8 : x16_2 < (a0.size : Int) := of_decide_eq_true y4
              have hx8 := bt_at a0 x16_2
              replace p8 := eq_true p8
              replace q8 := eq_true q8
              go_wp2
              go_roundg k2
              case measure => have := HJ1.out; have := HK2.out; omega
              case rel => exact ⟨(wrap64 (x16_2 + 1)), y7, H', ⟨(y25 HJ1.out HK2.out)⟩, y12⟩
          ·rw [if_neg c21] at H
           have c21b0 : decide (65 ≤ (bt a0 x16_2)) = false := decide_eq_false c21
           clear c21
           by_cases c27 : (bt a0 x16_2) < 48
           ·rw [if_pos c27] at H
            have c27b0 : decide ((bt a0 x16_2) < 48) = true := decide_eq_true c27
            clear c27
            by_cases c28 : (bt a0 x16_2) = 95
            ·rw [if_pos c28] at H
             have c28b0 : ((bt a0 x16_2) == 95) = true := beq_iff_eq.mpr c28
             have c28b1 : ((bt a0 x16_2) != 95) = false := bne_eq_false_iff_eq.mpr c28
             clear c28
             have H' := Aside0.mk H
             clear H
             have p8 : 0 ≤ (x16_2 : Int) := of_decide_eq_true y4
             have q8 : x16_2 < (a0.size : Int) := of_decide_eq_true y4
             have hx8 := bt_at a0 x16_2
             replace p8 := eq_true p8
             replace q8 := eq_true q8
             go_wp2
             go_roundg k2
             case measure => have := HJ1.out; have := HK2.out; omega
             case rel => exact ⟨(wrap64 (x16_2 + 1)), y7, H', ⟨(y25 HJ1.out HK2.out)⟩, y12⟩
            ·rw [if_neg c28] at H
             have c28b0 : ((bt a0 x16_2) == 95) = false := beq_eq_false_iff_ne.mpr c28
             have c28b1 : ((bt a0 x16_2) != 95) = true := bne_iff_ne.mpr c28
             obtain rfl := Option.some.inj H
             have p8 : 0 ≤ (x16_2 : Int) := of_decide_eq_true y4
             have q8 : x16_2 < (a0.size : Int) := of_decide_eq_true y4
             have hx8 := bt_at a0 x16_2
             replace p8 := eq_true p8
             replace q8 := eq_true q8
             go_wp2
             go_ret
             exact ⟨y7, y12⟩
           ·rw [if_neg c27] at H
            have c27b0 : decide ((bt a0 x16_2) < 48) = false := decide_eq_false c27
            clear c27
            by_cases c29 : (bt a0 x16_2) > 57
            ·rw [if_pos c29] at H
             have c29b0 : decide (57 < (bt a0 x16_2)) = true := decide_eq_true c29
             clear c29
             by_cases c30 : (bt a0 x16_2) = 95
             ·rw [if_pos c30] at H
              have c30b0 : ((bt a0 x16_2) == 95) = true := beq_iff_eq.mpr c30
              have c30b1 : ((bt a0 x16_2) != 95) = false := bne_eq_false_iff_eq.mpr c30
              clear c30
              have H' := Aside0.mk H
              clear H
              have p8 : 0 ≤ (x16_2 : Int) := of_decide_eq_true y4
              have q8 : x16_2 < (a0.size : Int) := of_decide_eq_true y4
              have hx8 := bt_at a0 x16_2
              replace p8 := eq_true p8
              replace q8 := eq_true q8
              go_wp2
              go_roundg k2
              case measure => have := HJ1.out; have := HK2.out; omega
              case rel => exact ⟨(wrap64 (x16_2 + 1)), y7, H', ⟨(y25 HJ1.out HK2.out)⟩, y12⟩
             ·rw [if_neg c30] at H
              have c30b0 : ((bt a0 x16_2) == 95) = false := beq_eq_false_iff_ne.mpr c30
              have c30b1 : ((bt a0 x16_2) != 95) = true := bne_iff_ne.mpr c30
              obtain rfl := Option.some.inj H
              have p8 : 0 ≤ (x16_2 : Int) := of_decide_eq_true y4
              have q8 : x16_2 < (a0.size : Int) := of_decide_eq_true y4
              have hx8 := bt_at a0 x16_2
              replace p8 := eq_true p8
              replace q8 := eq_true q8
              go_wp2
              go_ret
              exact ⟨y7, y12⟩
            ·rw [if_neg c29] at H
             have c29b0 : decide (57 < (bt a0 x16_2)) = false := decide_eq_false c29
             clear c29
             have H' := Aside0.mk H
             clear H
             have p8 : 0 ≤ (x16_2 : Int) := of_decide_eq_true y4
             have q8 : x16_2 < (a0.size : Int) := of_decide_eq_true y4
             have hx8 := bt_at a0 x16_2
             replace p8 := eq_true p8
             replace q8 := eq_true q8
             go_wp2
             go_roundg k2
             case measure => have := HJ1.out; have := HK2.out; omega
             case rel => exact ⟨(wrap64 (x16_2 + 1)), y7, H', ⟨(y25 HJ1.out HK2.out)⟩, y12⟩
        ·rw [if_neg c7] at H
         exact absurd H (by simp)
       ·rw [if_neg c6] at H
        exact absurd H (by simp)
      ·rw [if_neg c5] at H
       have c5b0 : decide (x16_2 < (a0.size : Int)) = false := decide_eq_false c5
       clear c5
       obtain rfl := Option.some.inj H
       go_wp2
       go_ret
       exact ⟨y7, y12⟩
end Go.Proofs.Ytdgpegkgelciaaa.PA
end
section
namespace Go.Proofs.Ytdgpegkgelciaaa.PA
open Go.RowKit Go.Proofs.YtdgpegkgelciaaaW.PrintWords Go.Proofs.YtdgpegkgelciaaaW.PrintLast Go.Proofs.YtdgpegkgelciaaaW.PrintMore
attribute [local go_sem] max2_int min2_int max_two min_two max_three min_three max_four min_four
set_option linter.unusedVariables false
set_option linter.unusedSimpArgs false
def impl_pathForm.l0 : Nat → List Int → Int → Int → Option (Bool)
 | 0, _, _, _ => none
 | k + 1, x8, x9, x10 => if x10 < x9 then (if 0 ≤ x10 then (if x10 < (x8.length : Int) then (if (rd x8 x10) < 0 then (some false) else (if (rd x8 x10) > 1 then (some false) else (impl_pathForm.l0 k x8 x9 (wrap64 (x10 + 1))))) else (none)) else (none)) else (some true)
def impl_pathForm.f (k : Nat) (l0 : List Int) : Option (Bool) := if (l0.length : Int) > 4 then (some false) else (impl_pathForm.l0 k l0 (l0.length : Int) 0)
theorem impl_pathForm.mono_l : ∀ k, (∀ y0 y1 y2, LeO (impl_pathForm.l0 k y0 y1 y2) (impl_pathForm.l0 (k + 1) y0 y1 y2))
 | 0 => fun _ _ _ r h => by simp [impl_pathForm.l0] at h
 | k + 1 => by
  have ih0 := impl_pathForm.mono_l k
  ·intro y0 y1 y2
   unfold impl_pathForm.l0
   repeat' first
   | (with_reducible exact ih0 _ _ _)
   | (with_reducible exact LeO.refl _)
   | (with_reducible exact LeO.none _)
   | (with_reducible refine LeO.ite ?_ ?_)
   | (with_reducible refine LeO.bind ?_ (fun _ => ?_))
   | exact ih0 _ _ _
   | exact LeO.none _
   | refine LeO.ite ?_ ?_
   | refine LeO.bind ?_ (fun _ => ?_)
theorem impl_pathForm.mono : ∀ a0 k, LeO (impl_pathForm.f k a0) (impl_pathForm.f (k + 1) a0) := by
 intro a0 k
 have ih0 := impl_pathForm.mono_l k
 unfold impl_pathForm.f
 repeat' first
   | (with_reducible exact ih0 _ _ _)
   | (with_reducible exact LeO.refl _)
   | (with_reducible exact LeO.none _)
   | (with_reducible refine LeO.ite ?_ ?_)
   | (with_reducible refine LeO.bind ?_ (fun _ => ?_))
   | exact ih0 _ _ _
   | exact LeO.none _
   | refine LeO.ite ?_ ?_
   | refine LeO.bind ?_ (fun _ => ?_)
set_option maxHeartbeats 8000000 in
set_option maxRecDepth 100000 in
theorem impl_pathForm.calls (k : Nat) (A0 : Option Addr) (c0 : Nat) (l0 : List Int) (r : Bool) (w : World) (hr0 : Kd.C (Kd.int .i64) w A0 l0.length l0) (hc0 : l0.length ≤ c0) (h : impl_pathForm.f k l0 = some r) :
  Calls Try.prog 64 #[.slice A0 l0.length c0] w fun e w' => e = .returned (.bool r) ∧ Drawn0 w w' := by
 have HR0 := Aside0.mk hr0
 have HC0 := Aside0.mk hc0
 clear hr0 hc0
 have H : (if (l0.length : Int) > 4 then (some false) else (impl_pathForm.l0 k l0 (l0.length : Int) 0)) = some r := h
 clear h
 by_cases c2 : (l0.length : Int) > 4
 ·rw [if_pos c2] at H
  have c2b0 : decide (4 < (l0.length : Int)) = true := decide_eq_true c2
  have c2b1 : decide (4 < l0.length) = true := decide_eq_true (by omega)
  clear c2
  obtain rfl := Option.some.inj H
  go_enter Try.func64, Try.ntmps64
  go_wp2
  go_ret
  exact ⟨y7, y12⟩
 ·rw [if_neg c2] at H
  have c2b0 : decide (4 < (l0.length : Int)) = false := decide_eq_false c2
  have c2b1 : decide (4 < l0.length) = false := decide_eq_false (by omega)
  clear c2
  have H' := Aside0.mk H
  clear H
  go_enter Try.func64, Try.ntmps64
  go_wp2
  go_loopg [10] k (fun kq v10 w' => ∃ (x10_1 : Int), v10 = .int .i64 x10_1 ∧ Aside0 (impl_pathForm.l0 kq l0 (l0.length : Int) x10_1 = some r) ∧ Aside0 (kq ≤ k) ∧ Drawn0 w w')
  case atStart => exact ⟨(0), y7, H', ⟨Nat.le_refl _⟩, y12⟩
  case round =>
   clear H'
   try clear c2
   try clear c2b0
   try clear c2b1
   try clear p2
   obtain ⟨x10_1, rfl, HA, HK1, ⟨m1, rfl⟩⟩ := hrel
   cases gk with
   | zero => exact absurd HA.out (by simp [impl_pathForm.l0])
   | succ k1 =>
    have H := HA.out
    clear HA
    simp only [impl_pathForm.l0] at H
    by_cases c3 : x10_1 < (l0.length : Int)
    ·rw [if_pos c3] at H
     have c3b0 : decide (x10_1 < (l0.length : Int)) = true := decide_eq_true c3
     clear c3
     by_cases c4 : 0 ≤ x10_1
     ·rw [if_pos c4] at H
      have c4b0 : decide (0 ≤ x10_1) = true := decide_eq_true c4
      clear c4
      by_cases c5 : x10_1 < (l0.length : Int)
      ·rw [if_pos c5] at H
       have c5b0 : decide (x10_1 < (l0.length : Int)) = true := decide_eq_true c5
       clear c5
       by_cases c6 : (rd l0 x10_1) < 0
       ·rw [if_pos c6] at H
        have c6b0 : decide ((rd l0 x10_1) < 0) = true := decide_eq_true c6
        clear c6
        obtain rfl := Option.some.inj H
        have p425 : 0 ≤ (x10_1 : Int) := of_decide_eq_true y4
        have q425 : x10_1 < (l0.length : Int) := of_decide_eq_true y4
        obtain ⟨ad425, e425, hx425_0⟩ := Kd.at_int HR0.out x10_1 p425 q425
        cases e425
        replace p425 := eq_true p425
        replace q425 := eq_true q425
        go_wp2
        go_ret
        exact ⟨y7, y12⟩
       ·rw [if_neg c6] at H
        have c6b0 : decide ((rd l0 x10_1) < 0) = false := decide_eq_false c6
        clear c6
        by_cases c7 : (rd l0 x10_1) > 1
        ·rw [if_pos c7] at H
         have c7b0 : decide (1 < (rd l0 x10_1)) = true := decide_eq_true c7
         clear c7
         obtain rfl := Option.some.inj H
         have p425 : 0 ≤ (x10_1 : Int) := of_decide_eq_true y4
         have q425 : x10_1 < (l0.length : Int) := of_decide_eq_true y4
         obtain ⟨ad425, e425, hx425_0⟩ := Kd.at_int HR0.out x10_1 p425 q425
         cases e425
         replace p425 := eq_true p425
         replace q425 := eq_true q425
         go_wp2
         go_ret
         exact ⟨y7, y12⟩
        ·rw [if_neg c7] at H
         have c7b0 : decide (1 < (rd l0 x10_1)) = false := decide_eq_false c7
         clear c7
         have H' := Aside0.mk H
         clear H
         have p425 : 0 ≤ (x10_1 : Int) := of_decide_eq_true y4
         have q425 : x10_1 < (l0.length : Int) := of_decide_eq_true y4
         obtain ⟨ad425, e425, hx425_0⟩ := Kd.at_int HR0.out x10_1 p425 q425
         cases e425
         replace p425 := eq_true p425
         replace q425 := eq_true q425
         go_wp2
         go_roundg k1
         case measure => have := HK1.out; omega
         case rel => exact ⟨(wrap64 (x10_1 + 1)), y7, H', ⟨(y30 HK1.out)⟩, y12⟩
      ·rw [if_neg c5] at H
       exact absurd H (by simp)
     ·rw [if_neg c4] at H
      exact absurd H (by simp)
    ·rw [if_neg c3] at H
     have c3b0 : decide (x10_1 < (l0.length : Int)) = false := decide_eq_false c3
     clear c3
     obtain rfl := Option.some.inj H
     go_wp2
     go_ret
     exact ⟨y7, y12⟩
end Go.Proofs.Ytdgpegkgelciaaa.PA
end
section
namespace Go.Proofs.Ytdgpegkgelciaaa.PA
open Go.RowKit Go.Proofs.YtdgpegkgelciaaaW.PrintWords Go.Proofs.YtdgpegkgelciaaaW.PrintLast Go.Proofs.YtdgpegkgelciaaaW.PrintMore
attribute [local go_sem] max2_int min2_int max_two min_two max_three min_three max_four min_four
set_option linter.unusedVariables false
set_option linter.unusedSimpArgs false
mutual
def impl_termOk.j2 : Nat → Int → Fv → Int → Int → Int → ByteArray → List Int → List (S78) → Int → Int → ByteArray → List Int → List (S78) → Option (Bool)
 | 0, _, _, _, _, _, _, _, _, _, _, _, _, _ => none
 | k + 1, x1, x2, x8, x427000, x427001, x427002, x427003, x427004, x428000, x428001, x428002, x428003, x428004 => if x428001 = 0 then (if x428002.toList = ([] : List UInt8) then (if (x428003.length : Int) = 0 then (impl_termOk.j3 k x1 x2 ((x427004.length : Int) != x8) x427000 x427001 x427002 x427003 x427004) else (impl_termOk.j3 k x1 x2 true x427000 x427001 x427002 x427003 x427004)) else (impl_termOk.j3 k x1 x2 true x427000 x427001 x427002 x427003 x427004)) else (impl_termOk.j3 k x1 x2 true x427000 x427001 x427002 x427003 x427004)
def impl_termOk.j3 : Nat → Int → Fv → Bool → Int → Int → ByteArray → List Int → List (S78) → Option (Bool)
 | 0, _, _, _, _, _, _, _, _ => none
 | k + 1, x1, x2, x78, x427000, x427001, x427002, x427003, x427004 => if x78 = true then (some false) else (impl_termOk.l0 k x1 x2 x427004 (x427004.length : Int) 0)
def impl_termOk.l0 : Nat → Int → Fv → List (S78) → Int → Int → Option (Bool)
 | 0, _, _, _, _, _ => none
 | k + 1, x1, x2, x80, x81, x82 => if x82 < x81 then (if 0 ≤ x82 then (if x82 < (x80.length : Int) then ((impl_termOk.f k ((rd_T78 x80 x82).f0) ((rd_T78 x80 x82).f1) ((rd_T78 x80 x82).f2) ((rd_T78 x80 x82).f3) ((rd_T78 x80 x82).f4) (wrap64 (x1 - 1)) x2).bind fun t433 => (if t433 = true then (impl_termOk.l0 k x1 x2 x80 x81 (wrap64 (x82 + 1))) else (some false))) else (none)) else (none)) else (some true)
def impl_termOk.j0 : Nat → Int → Fv → Int → Bool → Int → Int → ByteArray → List Int → List (S78) → Int → Int → ByteArray → List Int → List (S78) → Option (Bool)
 | 0, _, _, _, _, _, _, _, _, _, _, _, _, _, _ => none
 | k + 1, x1, x2, x15, x41, x427000, x427001, x427002, x427003, x427004, x428000, x428001, x428002, x428003, x428004 => if x41 = true then (impl_termOk.j2 k x1 x2 2 x427000 x427001 x427002 x427003 x427004 x428000 x428001 x428002 x428003 x428004) else (if x15 = 7 then (impl_termOk.j1 k x1 x2 (x15 == 7) x427000 x427001 x427002 x427003 x427004 x428000 x428001 x428002 x428003 x428004) else (impl_termOk.j1 k x1 x2 (x15 == 8) x427000 x427001 x427002 x427003 x427004 x428000 x428001 x428002 x428003 x428004))
def impl_termOk.j1 : Nat → Int → Fv → Bool → Int → Int → ByteArray → List Int → List (S78) → Int → Int → ByteArray → List Int → List (S78) → Option (Bool)
 | 0, _, _, _, _, _, _, _, _, _, _, _, _, _ => none
 | k + 1, x1, x2, x46, x427000, x427001, x427002, x427003, x427004, x428000, x428001, x428002, x428003, x428004 => if x46 = true then ((impl_pathForm.f k x427003).bind fun t430 => (if t430 = true then (impl_termOk.j2 k x1 x2 (wrap64 ((wrap64 (1 + x427000)) - 7)) x427000 x427001 x427002 x427003 x427004 x428000 x428001 x428002 ([] : List Int) x428004) else (some false))) else (some false)
def impl_termOk.f : Nat → Int → Int → ByteArray → List Int → List (S78) → Int → Fv → Option (Bool)
 | 0, _, _, _, _, _, _, _ => none
 | k + 1, a0_0, a0_1, a0_2, l0_3, l0_4, a1, a2 => if a1 < 1 then (some false) else (if a0_0 = 1 then (if a0_1 < 0 then (some false) else (if a0_1 > 9999 then (some false) else (impl_termOk.j2 k a1 a2 0 a0_0 a0_1 a0_2 l0_3 l0_4 a0_0 0 a0_2 l0_3 l0_4))) else (if a0_0 = 2 then ((impl_pureName.f k a0_2).bind fun t428 => (if t428 = true then ((impl_pureScope_bound.f a2 a0_2).bind fun t429 => (if t429 = true then (impl_termOk.j2 k a1 a2 0 a0_0 a0_1 a0_2 l0_3 l0_4 a0_0 a0_1 (⟨#[]⟩ : ByteArray) l0_3 l0_4) else (some false))) else (some false))) else (if a0_0 = 3 then (impl_termOk.j0 k a1 a2 a0_0 (a0_0 == 3) a0_0 a0_1 a0_2 l0_3 l0_4 a0_0 a0_1 a0_2 l0_3 l0_4) else (if a0_0 = 4 then (impl_termOk.j0 k a1 a2 a0_0 (a0_0 == 4) a0_0 a0_1 a0_2 l0_3 l0_4 a0_0 a0_1 a0_2 l0_3 l0_4) else (if a0_0 = 5 then (impl_termOk.j0 k a1 a2 a0_0 (a0_0 == 5) a0_0 a0_1 a0_2 l0_3 l0_4 a0_0 a0_1 a0_2 l0_3 l0_4) else (impl_termOk.j0 k a1 a2 a0_0 (a0_0 == 6) a0_0 a0_1 a0_2 l0_3 l0_4 a0_0 a0_1 a0_2 l0_3 l0_4))))))
end
theorem impl_termOk.mono_l : ∀ k, (∀ y0 y1 y2 y3 y4 y5 y6, LeO (impl_termOk.f k y0 y1 y2 y3 y4 y5 y6) (impl_termOk.f (k + 1) y0 y1 y2 y3 y4 y5 y6)) ∧ (∀ y0 y1 y2 y3 y4 y5 y6 y7 y8 y9 y10 y11 y12, LeO (impl_termOk.j2 k y0 y1 y2 y3 y4 y5 y6 y7 y8 y9 y10 y11 y12) (impl_termOk.j2 (k + 1) y0 y1 y2 y3 y4 y5 y6 y7 y8 y9 y10 y11 y12)) ∧ (∀ y0 y1 y2 y3 y4 y5 y6 y7, LeO (impl_termOk.j3 k y0 y1 y2 y3 y4 y5 y6 y7) (impl_termOk.j3 (k + 1) y0 y1 y2 y3 y4 y5 y6 y7)) ∧ (∀ y0 y1 y2 y3 y4, LeO (impl_termOk.l0 k y0 y1 y2 y3 y4) (impl_termOk.l0 (k + 1) y0 y1 y2 y3 y4)) ∧ (∀ y0 y1 y2 y3 y4 y5 y6 y7 y8 y9 y10 y11 y12 y13, LeO (impl_termOk.j0 k y0 y1 y2 y3 y4 y5 y6 y7 y8 y9 y10 y11 y12 y13) (impl_termOk.j0 (k + 1) y0 y1 y2 y3 y4 y5 y6 y7 y8 y9 y10 y11 y12 y13)) ∧ (∀ y0 y1 y2 y3 y4 y5 y6 y7 y8 y9 y10 y11 y12, LeO (impl_termOk.j1 k y0 y1 y2 y3 y4 y5 y6 y7 y8 y9 y10 y11 y12) (impl_termOk.j1 (k + 1) y0 y1 y2 y3 y4 y5 y6 y7 y8 y9 y10 y11 y12))
 | 0 => ⟨fun _ _ _ _ _ _ _ r h => by simp [impl_termOk.f] at h, fun _ _ _ _ _ _ _ _ _ _ _ _ _ r h => by simp [impl_termOk.j2] at h, fun _ _ _ _ _ _ _ _ r h => by simp [impl_termOk.j3] at h, fun _ _ _ _ _ r h => by simp [impl_termOk.l0] at h, fun _ _ _ _ _ _ _ _ _ _ _ _ _ _ r h => by simp [impl_termOk.j0] at h, fun _ _ _ _ _ _ _ _ _ _ _ _ _ r h => by simp [impl_termOk.j1] at h⟩
 | k + 1 => by
  obtain ⟨ih0, ih1, ih2, ih3, ih4, ih5⟩ := impl_termOk.mono_l k
  refine ⟨?_, ?_, ?_, ?_, ?_, ?_⟩
  ·intro y0 y1 y2 y3 y4 y5 y6
   unfold impl_termOk.f
   repeat' first
   | (with_reducible exact ih0 _ _ _ _ _ _ _)
   | (with_reducible exact ih1 _ _ _ _ _ _ _ _ _ _ _ _ _)
   | (with_reducible exact ih2 _ _ _ _ _ _ _ _)
   | (with_reducible exact ih3 _ _ _ _ _)
   | (with_reducible exact ih4 _ _ _ _ _ _ _ _ _ _ _ _ _ _)
   | (with_reducible exact ih5 _ _ _ _ _ _ _ _ _ _ _ _ _)
   | (with_reducible exact impl_pathForm.mono _ _)
   | (with_reducible exact impl_pureName.mono _ _)
   | (with_reducible exact LeO.refl _)
   | (with_reducible exact LeO.none _)
   | (with_reducible refine LeO.ite ?_ ?_)
   | (with_reducible refine LeO.bind ?_ (fun _ => ?_))
   | exact ih0 _ _ _ _ _ _ _
   | exact ih1 _ _ _ _ _ _ _ _ _ _ _ _ _
   | exact ih2 _ _ _ _ _ _ _ _
   | exact ih3 _ _ _ _ _
   | exact ih4 _ _ _ _ _ _ _ _ _ _ _ _ _ _
   | exact ih5 _ _ _ _ _ _ _ _ _ _ _ _ _
   | exact impl_pathForm.mono _ _
   | exact impl_pureName.mono _ _
   | exact LeO.none _
   | refine LeO.ite ?_ ?_
   | refine LeO.bind ?_ (fun _ => ?_)
  ·intro y0 y1 y2 y3 y4 y5 y6 y7 y8 y9 y10 y11 y12
   unfold impl_termOk.j2
   repeat' first
   | (with_reducible exact ih0 _ _ _ _ _ _ _)
   | (with_reducible exact ih1 _ _ _ _ _ _ _ _ _ _ _ _ _)
   | (with_reducible exact ih2 _ _ _ _ _ _ _ _)
   | (with_reducible exact ih3 _ _ _ _ _)
   | (with_reducible exact ih4 _ _ _ _ _ _ _ _ _ _ _ _ _ _)
   | (with_reducible exact ih5 _ _ _ _ _ _ _ _ _ _ _ _ _)
   | (with_reducible exact impl_pathForm.mono _ _)
   | (with_reducible exact impl_pureName.mono _ _)
   | (with_reducible exact LeO.refl _)
   | (with_reducible exact LeO.none _)
   | (with_reducible refine LeO.ite ?_ ?_)
   | (with_reducible refine LeO.bind ?_ (fun _ => ?_))
   | exact ih0 _ _ _ _ _ _ _
   | exact ih1 _ _ _ _ _ _ _ _ _ _ _ _ _
   | exact ih2 _ _ _ _ _ _ _ _
   | exact ih3 _ _ _ _ _
   | exact ih4 _ _ _ _ _ _ _ _ _ _ _ _ _ _
   | exact ih5 _ _ _ _ _ _ _ _ _ _ _ _ _
   | exact impl_pathForm.mono _ _
   | exact impl_pureName.mono _ _
   | exact LeO.none _
   | refine LeO.ite ?_ ?_
   | refine LeO.bind ?_ (fun _ => ?_)
  ·intro y0 y1 y2 y3 y4 y5 y6 y7
   unfold impl_termOk.j3
   repeat' first
   | (with_reducible exact ih0 _ _ _ _ _ _ _)
   | (with_reducible exact ih1 _ _ _ _ _ _ _ _ _ _ _ _ _)
   | (with_reducible exact ih2 _ _ _ _ _ _ _ _)
   | (with_reducible exact ih3 _ _ _ _ _)
   | (with_reducible exact ih4 _ _ _ _ _ _ _ _ _ _ _ _ _ _)
   | (with_reducible exact ih5 _ _ _ _ _ _ _ _ _ _ _ _ _)
   | (with_reducible exact impl_pathForm.mono _ _)
   | (with_reducible exact impl_pureName.mono _ _)
   | (with_reducible exact LeO.refl _)
   | (with_reducible exact LeO.none _)
   | (with_reducible refine LeO.ite ?_ ?_)
   | (with_reducible refine LeO.bind ?_ (fun _ => ?_))
   | exact ih0 _ _ _ _ _ _ _
   | exact ih1 _ _ _ _ _ _ _ _ _ _ _ _ _
   | exact ih2 _ _ _ _ _ _ _ _
   | exact ih3 _ _ _ _ _
   | exact ih4 _ _ _ _ _ _ _ _ _ _ _ _ _ _
   | exact ih5 _ _ _ _ _ _ _ _ _ _ _ _ _
   | exact impl_pathForm.mono _ _
   | exact impl_pureName.mono _ _
   | exact LeO.none _
   | refine LeO.ite ?_ ?_
   | refine LeO.bind ?_ (fun _ => ?_)
  ·intro y0 y1 y2 y3 y4
   unfold impl_termOk.l0
   repeat' first
   | (with_reducible exact ih0 _ _ _ _ _ _ _)
   | (with_reducible exact ih1 _ _ _ _ _ _ _ _ _ _ _ _ _)
   | (with_reducible exact ih2 _ _ _ _ _ _ _ _)
   | (with_reducible exact ih3 _ _ _ _ _)
   | (with_reducible exact ih4 _ _ _ _ _ _ _ _ _ _ _ _ _ _)
   | (with_reducible exact ih5 _ _ _ _ _ _ _ _ _ _ _ _ _)
   | (with_reducible exact impl_pathForm.mono _ _)
   | (with_reducible exact impl_pureName.mono _ _)
   | (with_reducible exact LeO.refl _)
   | (with_reducible exact LeO.none _)
   | (with_reducible refine LeO.ite ?_ ?_)
   | (with_reducible refine LeO.bind ?_ (fun _ => ?_))
   | exact ih0 _ _ _ _ _ _ _
   | exact ih1 _ _ _ _ _ _ _ _ _ _ _ _ _
   | exact ih2 _ _ _ _ _ _ _ _
   | exact ih3 _ _ _ _ _
   | exact ih4 _ _ _ _ _ _ _ _ _ _ _ _ _ _
   | exact ih5 _ _ _ _ _ _ _ _ _ _ _ _ _
   | exact impl_pathForm.mono _ _
   | exact impl_pureName.mono _ _
   | exact LeO.none _
   | refine LeO.ite ?_ ?_
   | refine LeO.bind ?_ (fun _ => ?_)
  ·intro y0 y1 y2 y3 y4 y5 y6 y7 y8 y9 y10 y11 y12 y13
   unfold impl_termOk.j0
   repeat' first
   | (with_reducible exact ih0 _ _ _ _ _ _ _)
   | (with_reducible exact ih1 _ _ _ _ _ _ _ _ _ _ _ _ _)
   | (with_reducible exact ih2 _ _ _ _ _ _ _ _)
   | (with_reducible exact ih3 _ _ _ _ _)
   | (with_reducible exact ih4 _ _ _ _ _ _ _ _ _ _ _ _ _ _)
   | (with_reducible exact ih5 _ _ _ _ _ _ _ _ _ _ _ _ _)
   | (with_reducible exact impl_pathForm.mono _ _)
   | (with_reducible exact impl_pureName.mono _ _)
   | (with_reducible exact LeO.refl _)
   | (with_reducible exact LeO.none _)
   | (with_reducible refine LeO.ite ?_ ?_)
   | (with_reducible refine LeO.bind ?_ (fun _ => ?_))
   | exact ih0 _ _ _ _ _ _ _
   | exact ih1 _ _ _ _ _ _ _ _ _ _ _ _ _
   | exact ih2 _ _ _ _ _ _ _ _
   | exact ih3 _ _ _ _ _
   | exact ih4 _ _ _ _ _ _ _ _ _ _ _ _ _ _
   | exact ih5 _ _ _ _ _ _ _ _ _ _ _ _ _
   | exact impl_pathForm.mono _ _
   | exact impl_pureName.mono _ _
   | exact LeO.none _
   | refine LeO.ite ?_ ?_
   | refine LeO.bind ?_ (fun _ => ?_)
  ·intro y0 y1 y2 y3 y4 y5 y6 y7 y8 y9 y10 y11 y12
   unfold impl_termOk.j1
   repeat' first
   | (with_reducible exact ih0 _ _ _ _ _ _ _)
   | (with_reducible exact ih1 _ _ _ _ _ _ _ _ _ _ _ _ _)
   | (with_reducible exact ih2 _ _ _ _ _ _ _ _)
   | (with_reducible exact ih3 _ _ _ _ _)
   | (with_reducible exact ih4 _ _ _ _ _ _ _ _ _ _ _ _ _ _)
   | (with_reducible exact ih5 _ _ _ _ _ _ _ _ _ _ _ _ _)
   | (with_reducible exact impl_pathForm.mono _ _)
   | (with_reducible exact impl_pureName.mono _ _)
   | (with_reducible exact LeO.refl _)
   | (with_reducible exact LeO.none _)
   | (with_reducible refine LeO.ite ?_ ?_)
   | (with_reducible refine LeO.bind ?_ (fun _ => ?_))
   | exact ih0 _ _ _ _ _ _ _
   | exact ih1 _ _ _ _ _ _ _ _ _ _ _ _ _
   | exact ih2 _ _ _ _ _ _ _ _
   | exact ih3 _ _ _ _ _
   | exact ih4 _ _ _ _ _ _ _ _ _ _ _ _ _ _
   | exact ih5 _ _ _ _ _ _ _ _ _ _ _ _ _
   | exact impl_pathForm.mono _ _
   | exact impl_pureName.mono _ _
   | exact LeO.none _
   | refine LeO.ite ?_ ?_
   | refine LeO.bind ?_ (fun _ => ?_)
theorem impl_termOk.mono : ∀ a0 a1 a2 a3 a4 a5 a6 k, LeO (impl_termOk.f k a0 a1 a2 a3 a4 a5 a6) (impl_termOk.f (k + 1) a0 a1 a2 a3 a4 a5 a6) := by
 intro a0 a1 a2 a3 a4 a5 a6 k
 obtain ⟨ih0, ih1, ih2, ih3, ih4, ih5⟩ := impl_termOk.mono_l k
 exact ih0 a0 a1 a2 a3 a4 a5 a6
set_option maxHeartbeats 8000000 in
set_option maxRecDepth 100000 in
theorem impl_termOk.calls (k : Nat) : ∀ (a0_0 : Int) (a0_1 : Int) (a0_2 : ByteArray) (P0_3_ : Nat → Prop) (A0_3 : Option Addr) (c0_3 : Nat) (l0_3 : List Int) (P0_4_ : Nat → Prop) (A0_4 : Option Addr) (c0_4 : Nat) (l0_4 : List (S78)) (a1 : Int) (a2 : Fv) (r : Bool) (w : World) (hG : HfG a2 w) (hs0_3 : Kd.V (Kd.int .i64) 3 w w.heap.size (fun k_ => P0_3_ k_) (.slice A0_3 l0_3.length c0_3) l0_3) (hs0_4 : Kd.V k78 78 w w.heap.size (fun k_ => P0_4_ k_) (.slice A0_4 l0_4.length c0_4) l0_4) (h : impl_termOk.f k a0_0 a0_1 a0_2 l0_3 l0_4 a1 a2 = some r),
  Calls Try.prog 55 #[.agg #[.int .i64 a0_0, .int .i64 a0_1, .string a0_2, .slice A0_3 l0_3.length c0_3, .slice A0_4 l0_4.length c0_4], .int .i64 a1, .func (.func 56) #[a2.x] #[]] w fun e w' => e = .returned (.bool r) ∧ Below w.heap.size w w' := by
 induction k using Nat.strongRecOn with
 | _ k ih =>
 intro a0_0 a0_1 a0_2 P0_3_ A0_3 c0_3 l0_3 P0_4_ A0_4 c0_4 l0_4 a1 a2 r w hG hs0_3 hs0_4 h
 cases k with
 | zero => exact absurd h (by simp [impl_termOk.f])
 | succ k =>
 simp only [impl_termOk.f] at h
 have hu78 := Try.underlying78
 have HO0_3 := Aside0.mk (show Kd.V (Kd.int .i64) 3 w w.heap.size (fun k_ => ((P0_3_ k_ ∨ P0_4_ k_) ∨ w.heap.size ≤ k_)) (.slice A0_3 l0_3.length c0_3) l0_3 from Kd.V_mono hs0_3 (fun k_ hk => .inl (.inl hk)))
 have HO0_4 := Aside0.mk (show Kd.V k78 78 w w.heap.size (fun k_ => ((P0_3_ k_ ∨ P0_4_ k_) ∨ w.heap.size ≤ k_)) (.slice A0_4 l0_4.length c0_4) l0_4 from Kd.V_mono hs0_4 (fun k_ hk => .inl (.inr hk)))
 have HB := Aside0.mk (Below.refl w.heap.size w)
 have HG := Aside0.mk hG
 clear hG
 have H : (if a1 < 1 then (some false) else (if a0_0 = 1 then (if a0_1 < 0 then (some false) else (if a0_1 > 9999 then (some false) else (impl_termOk.j2 k a1 a2 0 a0_0 a0_1 a0_2 l0_3 l0_4 a0_0 0 a0_2 l0_3 l0_4))) else (if a0_0 = 2 then ((impl_pureName.f k a0_2).bind fun t428 => (if t428 = true then ((impl_pureScope_bound.f a2 a0_2).bind fun t429 => (if t429 = true then (impl_termOk.j2 k a1 a2 0 a0_0 a0_1 a0_2 l0_3 l0_4 a0_0 a0_1 (⟨#[]⟩ : ByteArray) l0_3 l0_4) else (some false))) else (some false))) else (if a0_0 = 3 then (impl_termOk.j0 k a1 a2 a0_0 (a0_0 == 3) a0_0 a0_1 a0_2 l0_3 l0_4 a0_0 a0_1 a0_2 l0_3 l0_4) else (if a0_0 = 4 then (impl_termOk.j0 k a1 a2 a0_0 (a0_0 == 4) a0_0 a0_1 a0_2 l0_3 l0_4 a0_0 a0_1 a0_2 l0_3 l0_4) else (if a0_0 = 5 then (impl_termOk.j0 k a1 a2 a0_0 (a0_0 == 5) a0_0 a0_1 a0_2 l0_3 l0_4 a0_0 a0_1 a0_2 l0_3 l0_4) else (impl_termOk.j0 k a1 a2 a0_0 (a0_0 == 6) a0_0 a0_1 a0_2 l0_3 l0_4 a0_0 a0_1 a0_2 l0_3 l0_4))))))) = some r := h
 clear h
 have HZ4 := Aside0.mk H
 clear H
 go_enter Try.func55, Try.ntmps55
 go_upto_if 12 with (first | ((with_reducible refine gate_dst (N := 3) rfl ?_); (try (refine gate_guard (by rfl) ?_; dsimp only)); refine zbx 3 #[.int .i64 a0_0, .int .i64 a0_1, .string a0_2, .slice A0_3 l0_3.length c0_3, .slice A0_4 l0_4.length c0_4] 78 ?_; intro gb426 hg w5 hbox hb; replace HO0_3 := Aside0.mk (Kd.V_below (Kd.V_elderB (y13 HO0_3.out) gb426 (Nat.le_of_eq hg.symm)) hb); replace HO0_4 := Aside0.mk (Kd.V_below (Kd.V_elderB (y13 HO0_4.out) gb426 (Nat.le_of_eq hg.symm)) hb); have BK426 := Aside0.mk hbox; have GW426 := Aside0.mk ((y9 hg HB.out : w.heap.size ≤ gb426)); have GE426 := Aside0.mk ((y9 hg HB.out : w.heap.size ≤ gb426)); replace HB := Aside0.mk (below_step (y1 HB.out) hb); clear hb hbox hg))
 (try simp only [Act.put, List.setIfInBounds_toArray, List.set_cons_zero, List.set_cons_succ])
 have H := HZ4.out
 clear HZ4
 by_cases c6 : a1 < 1
 ·rw [if_pos c6] at H
  have c6b0 : decide (a1 < 1) = true := decide_eq_true c6
  clear c6
  (first | rw [c6b0] | (simp only [i64_w, i32_w]; rw [c6b0]) | skip)
  obtain rfl := Option.some.inj H
  go_wp2
  go_ret
  exact ⟨y6, (y2 HB.out GE426.out)⟩
 ·rw [if_neg c6] at H
  have c6b0 : decide (a1 < 1) = false := decide_eq_false c6
  clear c6
  (first | rw [c6b0] | (simp only [i64_w, i32_w]; rw [c6b0]) | skip)
  have HC7 := Aside0.mk H
  clear H
  have hcz8_0 := zh BK426
  have hcz8_1 := zh1 BK426
  have hcz8_2 := zh2 BK426
  have hcz8_3 : w5.cell? ⟨gb426, 3, none⟩ = some (.slice A0_3 l0_3.length c0_3) := (blk_cell BK426.out 3).trans rfl
  have hcz8_4 : w5.cell? ⟨gb426, 4, none⟩ = some (.slice A0_4 l0_4.length c0_4) := (blk_cell BK426.out 4).trans rfl
  have hfz8_0 := zfr BK426 0
  have hfz8_1 := zfr BK426 1
  have hfz8_2 := zfr BK426 2
  have hfz8_3 := zfr BK426 3
  have hfz8_4 := zfr BK426 4
  go_upto_block 0 with (first | ((with_reducible refine gate_dst (N := 7) rfl ?_); (try (refine gate_guard (by rfl) ?_; dsimp only)); refine zbx 7 #[.int .i64 0, .int .i64 0, .string (⟨#[]⟩ : ByteArray), .slice none 0 0, .slice none 0 0] 78 ?_; intro gb427 hg w9 hbox hb; replace HO0_3 := Aside0.mk (Kd.V_below (Kd.V_elderB (y13 HO0_3.out) gb427 (Nat.le_of_eq hg.symm)) hb); replace HO0_4 := Aside0.mk (Kd.V_below (Kd.V_elderB (y13 HO0_4.out) gb427 (Nat.le_of_eq hg.symm)) hb); have BK427 := Aside0.mk hbox; have GW427 := Aside0.mk ((y15 hg HB.out GE426.out : w.heap.size ≤ gb427)); have GE427 := Aside0.mk ((y15 hg HB.out GE426.out : w.heap.size ≤ gb427)); replace HB := Aside0.mk (below_step (y2 HB.out GE426.out) hb); have NB426_427 := zltn hg BK426; have NB427_426 := zgtn hg BK426; replace BK426 := zbb BK426 hb; clear hb hbox hg; have hnb10 := NB427_426.out; have hnc10 := NB426_427.out; have hcz11_0 := zh BK427; have hcz11_1 := zh1 BK427; have hcz11_2 := zh2 BK427; have hcz11_3 : w9.cell? ⟨gb427, 3, none⟩ = some (.slice none 0 0) := (blk_cell BK427.out 3).trans rfl; have hcz11_4 : w9.cell? ⟨gb427, 4, none⟩ = some (.slice none 0 0) := (blk_cell BK427.out 4).trans rfl; have hfz11_0 := zfr BK427 0; have hfz11_1 := zfr BK427 1; have hfz11_2 := zfr BK427 2; have hfz11_3 := zfr BK427 3; have hfz11_4 := zfr BK427 4; have hcz12_0 := zh BK426; have hcz12_1 := zh1 BK426; have hcz12_2 := zh2 BK426; have hcz12_3 : w9.cell? ⟨gb426, 3, none⟩ = some (.slice A0_3 l0_3.length c0_3) := (blk_cell BK426.out 3).trans rfl; have hcz12_4 : w9.cell? ⟨gb426, 4, none⟩ = some (.slice A0_4 l0_4.length c0_4) := (blk_cell BK426.out 4).trans rfl; have hfz12_0 := zfr BK426 0; have hfz12_1 := zfr BK426 1; have hfz12_2 := zfr BK426 2; have hfz12_3 := zfr BK426 3; have hfz12_4 := zfr BK426 4))
  (try simp only [Act.put, List.setIfInBounds_toArray, List.set_cons_zero, List.set_cons_succ])
  go_cut [8] (fun v8 wc => ∃ (kq : Nat) (x8_6 : Int) (x428001_6 : Int) (x428002_6 : ByteArray) (x428003_6 : List Int) (u428003 : Value), v8 = .int .i64 x8_6 ∧ Aside0 (impl_termOk.j2 kq a1 a2 x8_6 a0_0 a0_1 a0_2 l0_3 l0_4 a0_0 x428001_6 x428002_6 x428003_6 l0_4 = some r) ∧ Aside0 (kq ≤ k) ∧ Aside0 (Kd.V (Kd.int .i64) 3 wc w.heap.size (fun k_ => ((P0_3_ k_ ∨ P0_4_ k_) ∨ w.heap.size ≤ k_) ∧ k_ ≠ gb426 ∧ k_ ≠ gb427) (.slice A0_3 l0_3.length c0_3) l0_3) ∧ Aside0 (Kd.V k78 78 wc w.heap.size (fun k_ => ((P0_3_ k_ ∨ P0_4_ k_) ∨ w.heap.size ≤ k_) ∧ k_ ≠ gb426 ∧ k_ ≠ gb427) (.slice A0_4 l0_4.length c0_4) l0_4) ∧ Aside0 (Kd.V (Kd.int .i64) 3 wc w.heap.size (fun k_ => ((P0_3_ k_ ∨ P0_4_ k_) ∨ w.heap.size ≤ k_) ∧ k_ ≠ gb426 ∧ k_ ≠ gb427) u428003 x428003_6) ∧ Aside0 (Kd.V k78 78 wc w.heap.size (fun k_ => ((P0_3_ k_ ∨ P0_4_ k_) ∨ w.heap.size ≤ k_) ∧ k_ ≠ gb426 ∧ k_ ≠ gb427) (.slice A0_4 l0_4.length c0_4) l0_4) ∧ Aside0 (wc.heap[gb426]? = some (.cells #[.int .i64 a0_0, .int .i64 a0_1, .string a0_2, (.slice A0_3 l0_3.length c0_3), (.slice A0_4 l0_4.length c0_4)] 78 (0, 0))) ∧ Aside0 (wc.heap[gb427]? = some (.cells #[.int .i64 a0_0, .int .i64 x428001_6, .string x428002_6, u428003, (.slice A0_4 l0_4.length c0_4)] 78 (0, 0))) ∧ Aside0 (Below w.heap.size w wc))
  case first =>
   have H := HC7.out
   clear HC7
   by_cases c13 : a0_0 = 1
   ·rw [if_pos c13] at H
    have c13b0 : (a0_0 == 1) = true := beq_iff_eq.mpr c13
    have c13b1 : (a0_0 != 1) = false := bne_eq_false_iff_eq.mpr c13
    clear c13
    (first | rw [c13b0] | (simp only [i64_w, i32_w]; rw [c13b0]) | skip)
    by_cases c14 : a0_1 < 0
    ·rw [if_pos c14] at H
     have c14b0 : decide (a0_1 < 0) = true := decide_eq_true c14
     clear c14
     obtain rfl := Option.some.inj H
     have hnb15 := NB426_427.out
     have hnc15 := NB427_426.out
     have hcz16_0 := zh BK426
     have hcz16_1 := zh1 BK426
     have hcz16_2 := zh2 BK426
     have hcz16_3 : w9.cell? ⟨gb426, 3, none⟩ = some (.slice A0_3 l0_3.length c0_3) := (blk_cell BK426.out 3).trans rfl
     have hcz16_4 : w9.cell? ⟨gb426, 4, none⟩ = some (.slice A0_4 l0_4.length c0_4) := (blk_cell BK426.out 4).trans rfl
     have hfz16_0 := zfr BK426 0
     have hfz16_1 := zfr BK426 1
     have hfz16_2 := zfr BK426 2
     have hfz16_3 := zfr BK426 3
     have hfz16_4 := zfr BK426 4
     go_wp2
     go_ret
     exact ⟨y6, (y5 HB.out GE426.out GE427.out)⟩
    ·rw [if_neg c14] at H
     have c14b0 : decide (a0_1 < 0) = false := decide_eq_false c14
     clear c14
     by_cases c17 : a0_1 > 9999
     ·rw [if_pos c17] at H
      have c17b0 : decide (9999 < a0_1) = true := decide_eq_true c17
      clear c17
      obtain rfl := Option.some.inj H
      have hnb18 := NB426_427.out
      have hnc18 := NB427_426.out
      have hcz19_0 := zh BK426
      have hcz19_1 := zh1 BK426
      have hcz19_2 := zh2 BK426
      have hcz19_3 : w9.cell? ⟨gb426, 3, none⟩ = some (.slice A0_3 l0_3.length c0_3) := (blk_cell BK426.out 3).trans rfl
      have hcz19_4 : w9.cell? ⟨gb426, 4, none⟩ = some (.slice A0_4 l0_4.length c0_4) := (blk_cell BK426.out 4).trans rfl
      have hfz19_0 := zfr BK426 0
      have hfz19_1 := zfr BK426 1
      have hfz19_2 := zfr BK426 2
      have hfz19_3 := zfr BK426 3
      have hfz19_4 := zfr BK426 4
      go_wp2
      go_ret
      exact ⟨y6, (y5 HB.out GE426.out GE427.out)⟩
     ·rw [if_neg c17] at H
      have c17b0 : decide (9999 < a0_1) = false := decide_eq_false c17
      clear c17
      have H' := Aside0.mk H
      clear H
      have hnb20 := NB426_427.out
      have hnc20 := NB427_426.out
      have hcz21_0 := zh BK426
      have hcz21_1 := zh1 BK426
      have hcz21_2 := zh2 BK426
      have hcz21_3 : w9.cell? ⟨gb426, 3, none⟩ = some (.slice A0_3 l0_3.length c0_3) := (blk_cell BK426.out 3).trans rfl
      have hcz21_4 : w9.cell? ⟨gb426, 4, none⟩ = some (.slice A0_4 l0_4.length c0_4) := (blk_cell BK426.out 4).trans rfl
      have hfz21_0 := zfr BK426 0
      have hfz21_1 := zfr BK426 1
      have hfz21_2 := zfr BK426 2
      have hfz21_3 := zfr BK426 3
      have hfz21_4 := zfr BK426 4
      have hcz22_0 := zh BK427
      have hcz22_1 := zh1 BK427
      have hcz22_2 := zh2 BK427
      have hcz22_3 : w9.cell? ⟨gb427, 3, none⟩ = some (.slice none 0 0) := (blk_cell BK427.out 3).trans rfl
      have hcz22_4 : w9.cell? ⟨gb427, 4, none⟩ = some (.slice none 0 0) := (blk_cell BK427.out 4).trans rfl
      have hfz22_0 := zfr BK427 0
      have hfz22_1 := zfr BK427 1
      have hfz22_2 := zfr BK427 2
      have hfz22_3 := zfr BK427 3
      have hfz22_4 := zfr BK427 4
      go_wp2
      go_meet
      case rel => exact ⟨_, (0), (0), (a0_2), (l0_3), (.slice A0_3 l0_3.length c0_3), y7, H', ⟨y33⟩, ⟨(by (with_reducible repeat (first | apply Kd.V_alloc | apply Kd.V_drewN | apply Kd.V_drew)); exact Kd.V_mono (Kd.V_far (p := ⟨gb427, 1, none⟩) (Kd.V_far (p := ⟨gb427, 4, none⟩) (Kd.V_far (p := ⟨gb427, 3, none⟩) (Kd.V_far (p := ⟨gb427, 2, none⟩) (Kd.V_far (p := ⟨gb427, 1, none⟩) (Kd.V_far (p := ⟨gb427, 0, none⟩) (Kd.V_mono HO0_3.out (fun k_ hk => (⟨hk, hk.2⟩ : _ ∧ k_ ≠ gb427))) (fun _ hk => hk.2) (.int .i64 a0_0)) (fun _ hk => hk.2) (.int .i64 a0_1)) (fun _ hk => hk.2) (.string a0_2)) (fun _ hk => hk.2) (.slice A0_3 l0_3.length c0_3)) (fun _ hk => hk.2) (.slice A0_4 l0_4.length c0_4)) (fun _ hk => hk.2) (.int .i64 0)) (fun _ hk => ⟨hk.1.1.1, ⟨hk.1.1.2, hk.1.2⟩⟩))⟩, ⟨(by (with_reducible repeat (first | apply Kd.V_alloc | apply Kd.V_drewN | apply Kd.V_drew)); exact Kd.V_mono (Kd.V_far (p := ⟨gb427, 1, none⟩) (Kd.V_far (p := ⟨gb427, 4, none⟩) (Kd.V_far (p := ⟨gb427, 3, none⟩) (Kd.V_far (p := ⟨gb427, 2, none⟩) (Kd.V_far (p := ⟨gb427, 1, none⟩) (Kd.V_far (p := ⟨gb427, 0, none⟩) (Kd.V_mono HO0_4.out (fun k_ hk => (⟨hk, hk.2⟩ : _ ∧ k_ ≠ gb427))) (fun _ hk => hk.2) (.int .i64 a0_0)) (fun _ hk => hk.2) (.int .i64 a0_1)) (fun _ hk => hk.2) (.string a0_2)) (fun _ hk => hk.2) (.slice A0_3 l0_3.length c0_3)) (fun _ hk => hk.2) (.slice A0_4 l0_4.length c0_4)) (fun _ hk => hk.2) (.int .i64 0)) (fun _ hk => ⟨hk.1.1.1, ⟨hk.1.1.2, hk.1.2⟩⟩))⟩, ⟨(by (with_reducible repeat (first | apply Kd.V_alloc | apply Kd.V_drewN | apply Kd.V_drew)); exact Kd.V_mono (Kd.V_far (p := ⟨gb427, 1, none⟩) (Kd.V_far (p := ⟨gb427, 4, none⟩) (Kd.V_far (p := ⟨gb427, 3, none⟩) (Kd.V_far (p := ⟨gb427, 2, none⟩) (Kd.V_far (p := ⟨gb427, 1, none⟩) (Kd.V_far (p := ⟨gb427, 0, none⟩) (Kd.V_mono HO0_3.out (fun k_ hk => (⟨hk, hk.2⟩ : _ ∧ k_ ≠ gb427))) (fun _ hk => hk.2) (.int .i64 a0_0)) (fun _ hk => hk.2) (.int .i64 a0_1)) (fun _ hk => hk.2) (.string a0_2)) (fun _ hk => hk.2) (.slice A0_3 l0_3.length c0_3)) (fun _ hk => hk.2) (.slice A0_4 l0_4.length c0_4)) (fun _ hk => hk.2) (.int .i64 0)) (fun _ hk => ⟨hk.1.1.1, ⟨hk.1.1.2, hk.1.2⟩⟩))⟩, ⟨(by (with_reducible repeat (first | apply Kd.V_alloc | apply Kd.V_drewN | apply Kd.V_drew)); exact Kd.V_mono (Kd.V_far (p := ⟨gb427, 1, none⟩) (Kd.V_far (p := ⟨gb427, 4, none⟩) (Kd.V_far (p := ⟨gb427, 3, none⟩) (Kd.V_far (p := ⟨gb427, 2, none⟩) (Kd.V_far (p := ⟨gb427, 1, none⟩) (Kd.V_far (p := ⟨gb427, 0, none⟩) (Kd.V_mono HO0_4.out (fun k_ hk => (⟨hk, hk.2⟩ : _ ∧ k_ ≠ gb427))) (fun _ hk => hk.2) (.int .i64 a0_0)) (fun _ hk => hk.2) (.int .i64 a0_1)) (fun _ hk => hk.2) (.string a0_2)) (fun _ hk => hk.2) (.slice A0_3 l0_3.length c0_3)) (fun _ hk => hk.2) (.slice A0_4 l0_4.length c0_4)) (fun _ hk => hk.2) (.int .i64 0)) (fun _ hk => ⟨hk.1.1.1, ⟨hk.1.1.2, hk.1.2⟩⟩))⟩, ⟨(by (with_reducible repeat (first | refine blk_drewN ?_ _ | refine blk_drew ?_ | refine blk_alloc ?_ _)); refine blk_far ?_ NB426_427.out _; (with_reducible repeat (first | refine blk_drewN ?_ _ | refine blk_drew ?_ | refine blk_alloc ?_ _)); refine blk_far ?_ NB426_427.out _; (with_reducible repeat (first | refine blk_drewN ?_ _ | refine blk_drew ?_ | refine blk_alloc ?_ _)); refine blk_far ?_ NB426_427.out _; (with_reducible repeat (first | refine blk_drewN ?_ _ | refine blk_drew ?_ | refine blk_alloc ?_ _)); refine blk_far ?_ NB426_427.out _; (with_reducible repeat (first | refine blk_drewN ?_ _ | refine blk_drew ?_ | refine blk_alloc ?_ _)); refine blk_far ?_ NB426_427.out _; (with_reducible repeat (first | refine blk_drewN ?_ _ | refine blk_drew ?_ | refine blk_alloc ?_ _)); refine blk_far ?_ NB426_427.out _; (with_reducible repeat (first | refine blk_drewN ?_ _ | refine blk_drew ?_ | refine blk_alloc ?_ _)); exact BK426.out)⟩, ⟨(by (with_reducible repeat (first | refine blk_drewN ?_ _ | refine blk_drew ?_ | refine blk_alloc ?_ _)); refine blk_put (cs := #[.int .i64 a0_0, .int .i64 a0_1, .string a0_2, .slice A0_3 l0_3.length c0_3, .slice A0_4 l0_4.length c0_4]) ?_ 1 _ rfl; (with_reducible repeat (first | refine blk_drewN ?_ _ | refine blk_drew ?_ | refine blk_alloc ?_ _)); refine blk_put (cs := #[.int .i64 a0_0, .int .i64 a0_1, .string a0_2, .slice A0_3 l0_3.length c0_3, .slice none 0 0]) ?_ 4 _ rfl; (with_reducible repeat (first | refine blk_drewN ?_ _ | refine blk_drew ?_ | refine blk_alloc ?_ _)); refine blk_put (cs := #[.int .i64 a0_0, .int .i64 a0_1, .string a0_2, .slice none 0 0, .slice none 0 0]) ?_ 3 _ rfl; (with_reducible repeat (first | refine blk_drewN ?_ _ | refine blk_drew ?_ | refine blk_alloc ?_ _)); refine blk_put (cs := #[.int .i64 a0_0, .int .i64 a0_1, .string (⟨#[]⟩ : ByteArray), .slice none 0 0, .slice none 0 0]) ?_ 2 _ rfl; (with_reducible repeat (first | refine blk_drewN ?_ _ | refine blk_drew ?_ | refine blk_alloc ?_ _)); refine blk_put (cs := #[.int .i64 a0_0, .int .i64 0, .string (⟨#[]⟩ : ByteArray), .slice none 0 0, .slice none 0 0]) ?_ 1 _ rfl; (with_reducible repeat (first | refine blk_drewN ?_ _ | refine blk_drew ?_ | refine blk_alloc ?_ _)); refine blk_put (cs := #[.int .i64 0, .int .i64 0, .string (⟨#[]⟩ : ByteArray), .slice none 0 0, .slice none 0 0]) ?_ 0 _ rfl; (with_reducible repeat (first | refine blk_drewN ?_ _ | refine blk_drew ?_ | refine blk_alloc ?_ _)); exact BK427.out)⟩, ⟨(y5 HB.out GE426.out GE427.out)⟩⟩
   ·rw [if_neg c13] at H
    have c13b0 : (a0_0 == 1) = false := beq_eq_false_iff_ne.mpr c13
    have c13b1 : (a0_0 != 1) = true := bne_iff_ne.mpr c13
    (first | rw [c13b0] | (simp only [i64_w, i32_w]; rw [c13b0]) | skip)
    by_cases c23 : a0_0 = 2
    ·rw [if_pos c23] at H
     have c23b0 : (a0_0 == 2) = true := beq_iff_eq.mpr c23
     have c23b1 : (a0_0 != 2) = false := bne_eq_false_iff_eq.mpr c23
     clear c23
     obtain ⟨t428, A240, H⟩ := ob H
     have A24 := Aside0.mk A240
     clear A240
     by_cases c25 : t428 = true
     ·subst c25
      rw [if_pos rfl] at H
      obtain ⟨t429, A260, H⟩ := ob H
      have A26 := Aside0.mk A260
      clear A260
      have HZ27 := Aside0.mk H
      clear H
      have hnb28 := NB426_427.out
      have hnc28 := NB427_426.out
      have hcz29_0 := zh BK426
      have hcz29_1 := zh1 BK426
      have hcz29_2 := zh2 BK426
      have hcz29_3 : w9.cell? ⟨gb426, 3, none⟩ = some (.slice A0_3 l0_3.length c0_3) := (blk_cell BK426.out 3).trans rfl
      have hcz29_4 : w9.cell? ⟨gb426, 4, none⟩ = some (.slice A0_4 l0_4.length c0_4) := (blk_cell BK426.out 4).trans rfl
      have hfz29_0 := zfr BK426 0
      have hfz29_1 := zfr BK426 1
      have hfz29_2 := zfr BK426 2
      have hfz29_3 := zfr BK426 3
      have hfz29_4 := zfr BK426 4
      go_upto_if 39 with (first | ((with_reducible refine gate_callee (f := 22) rfl ?_); refine goesL_ (some 31) rfl rfl Try.func22 (by kernel_rfl) rfl #[.string a0_2] rfl y3 ?_; (with_reducible refine (impl_pureName.calls k a0_2 true _ A24.out).mono ?_); rintro e w' ⟨rfl, ⟨nd, rfl⟩⟩; refine ⟨_, rfl, ?_⟩) | (go_at_call 56; (with_reducible refine (impl_pureScope_bound.calls (hG := ?sideG) a2 a0_2 t429 _ A26.out).mono ?_); (case sideG => exact hf_gd HG.out (y5 HB.out GE426.out GE427.out)); rintro e w30 ⟨rfl, hb⟩; replace HO0_3 := Aside0.mk (Kd.V_below (by (with_reducible repeat (first | apply Kd.V_alloc | apply Kd.V_drewN | apply Kd.V_drew)); exact (Kd.V_mono (Kd.V_far (p := ⟨gb427, 4, none⟩) (Kd.V_far (p := ⟨gb427, 3, none⟩) (Kd.V_far (p := ⟨gb427, 2, none⟩) (Kd.V_far (p := ⟨gb427, 1, none⟩) (Kd.V_far (p := ⟨gb427, 0, none⟩) (Kd.V_mono HO0_3.out (fun k_ hk => (⟨hk, hk.2⟩ : _ ∧ k_ ≠ gb427))) (fun _ hk => hk.2) (.int .i64 a0_0)) (fun _ hk => hk.2) (.int .i64 a0_1)) (fun _ hk => hk.2) (.string a0_2)) (fun _ hk => hk.2) (.slice A0_3 l0_3.length c0_3)) (fun _ hk => hk.2) (.slice A0_4 l0_4.length c0_4)) (fun _ h_ => h_.1))) hb); replace HO0_4 := Aside0.mk (Kd.V_below (by (with_reducible repeat (first | apply Kd.V_alloc | apply Kd.V_drewN | apply Kd.V_drew)); exact (Kd.V_mono (Kd.V_far (p := ⟨gb427, 4, none⟩) (Kd.V_far (p := ⟨gb427, 3, none⟩) (Kd.V_far (p := ⟨gb427, 2, none⟩) (Kd.V_far (p := ⟨gb427, 1, none⟩) (Kd.V_far (p := ⟨gb427, 0, none⟩) (Kd.V_mono HO0_4.out (fun k_ hk => (⟨hk, hk.2⟩ : _ ∧ k_ ≠ gb427))) (fun _ hk => hk.2) (.int .i64 a0_0)) (fun _ hk => hk.2) (.int .i64 a0_1)) (fun _ hk => hk.2) (.string a0_2)) (fun _ hk => hk.2) (.slice A0_3 l0_3.length c0_3)) (fun _ hk => hk.2) (.slice A0_4 l0_4.length c0_4)) (fun _ h_ => h_.1))) hb); replace BK426 := Aside0.mk (blk_below (g := gb426) (o := .cells #[.int .i64 a0_0, .int .i64 a0_1, .string a0_2, .slice A0_3 l0_3.length c0_3, .slice A0_4 l0_4.length c0_4] 78 (0, 0)) (y14 NB426_427.out BK426.out) hb); replace BK427 := Aside0.mk (blk_below (g := gb427) (o := .cells #[.int .i64 a0_0, .int .i64 a0_1, .string a0_2, .slice A0_3 l0_3.length c0_3, .slice A0_4 l0_4.length c0_4] 78 (0, 0)) (by (with_reducible repeat (first | refine blk_drewN ?_ _ | refine blk_drew ?_ | refine blk_alloc ?_ _)); refine blk_put (cs := #[.int .i64 a0_0, .int .i64 a0_1, .string a0_2, .slice A0_3 l0_3.length c0_3, .slice none 0 0]) ?_ 4 _ rfl; (with_reducible repeat (first | refine blk_drewN ?_ _ | refine blk_drew ?_ | refine blk_alloc ?_ _)); refine blk_put (cs := #[.int .i64 a0_0, .int .i64 a0_1, .string a0_2, .slice none 0 0, .slice none 0 0]) ?_ 3 _ rfl; (with_reducible repeat (first | refine blk_drewN ?_ _ | refine blk_drew ?_ | refine blk_alloc ?_ _)); refine blk_put (cs := #[.int .i64 a0_0, .int .i64 a0_1, .string (⟨#[]⟩ : ByteArray), .slice none 0 0, .slice none 0 0]) ?_ 2 _ rfl; (with_reducible repeat (first | refine blk_drewN ?_ _ | refine blk_drew ?_ | refine blk_alloc ?_ _)); refine blk_put (cs := #[.int .i64 a0_0, .int .i64 0, .string (⟨#[]⟩ : ByteArray), .slice none 0 0, .slice none 0 0]) ?_ 1 _ rfl; (with_reducible repeat (first | refine blk_drewN ?_ _ | refine blk_drew ?_ | refine blk_alloc ?_ _)); apply blk_put (i := 0); (case h => exact y8 BK427.out); (case e => rfl)) hb); replace HB := Aside0.mk (below_step (y5 HB.out GE426.out GE427.out) hb); (try clear hb); (try clear hb2); (try clear hk); (try clear hi)))
      (try simp only [Act.put, List.setIfInBounds_toArray, List.set_cons_zero, List.set_cons_succ])
      have H := HZ27.out
      clear HZ27
      by_cases c31 : t429 = true
      ·subst c31
       rw [if_pos rfl] at H
       have H' := Aside0.mk H
       clear H
       have hnb32 := NB427_426.out
       have hnc32 := NB426_427.out
       have hcz33_0 := zh BK427
       have hcz33_1 := zh1 BK427
       have hcz33_2 := zh2 BK427
       have hcz33_3 : w30.cell? ⟨gb427, 3, none⟩ = some (.slice A0_3 l0_3.length c0_3) := (blk_cell BK427.out 3).trans rfl
       have hcz33_4 : w30.cell? ⟨gb427, 4, none⟩ = some (.slice A0_4 l0_4.length c0_4) := (blk_cell BK427.out 4).trans rfl
       have hfz33_0 := zfr BK427 0
       have hfz33_1 := zfr BK427 1
       have hfz33_2 := zfr BK427 2
       have hfz33_3 := zfr BK427 3
       have hfz33_4 := zfr BK427 4
       go_wp2
       go_meet
       case rel => exact ⟨_, (0), (a0_1), ((⟨#[]⟩ : ByteArray)), (l0_3), (.slice A0_3 l0_3.length c0_3), y7, H', ⟨y33⟩, ⟨(by (with_reducible repeat (first | apply Kd.V_alloc | apply Kd.V_drewN | apply Kd.V_drew)); exact Kd.V_mono (Kd.V_far (p := ⟨gb427, 2, none⟩) (Kd.V_mono HO0_3.out (fun k_ hk => (⟨hk, hk.2⟩ : _ ∧ k_ ≠ gb427))) (fun _ hk => hk.2) (.string (⟨#[]⟩ : ByteArray))) (fun _ hk => ⟨hk.1.1.1, ⟨hk.1.1.2, hk.1.2⟩⟩))⟩, ⟨(by (with_reducible repeat (first | apply Kd.V_alloc | apply Kd.V_drewN | apply Kd.V_drew)); exact Kd.V_mono (Kd.V_far (p := ⟨gb427, 2, none⟩) (Kd.V_mono HO0_4.out (fun k_ hk => (⟨hk, hk.2⟩ : _ ∧ k_ ≠ gb427))) (fun _ hk => hk.2) (.string (⟨#[]⟩ : ByteArray))) (fun _ hk => ⟨hk.1.1.1, ⟨hk.1.1.2, hk.1.2⟩⟩))⟩, ⟨(by (with_reducible repeat (first | apply Kd.V_alloc | apply Kd.V_drewN | apply Kd.V_drew)); exact Kd.V_mono (Kd.V_far (p := ⟨gb427, 2, none⟩) (Kd.V_mono HO0_3.out (fun k_ hk => (⟨hk, hk.2⟩ : _ ∧ k_ ≠ gb427))) (fun _ hk => hk.2) (.string (⟨#[]⟩ : ByteArray))) (fun _ hk => ⟨hk.1.1.1, ⟨hk.1.1.2, hk.1.2⟩⟩))⟩, ⟨(by (with_reducible repeat (first | apply Kd.V_alloc | apply Kd.V_drewN | apply Kd.V_drew)); exact Kd.V_mono (Kd.V_far (p := ⟨gb427, 2, none⟩) (Kd.V_mono HO0_4.out (fun k_ hk => (⟨hk, hk.2⟩ : _ ∧ k_ ≠ gb427))) (fun _ hk => hk.2) (.string (⟨#[]⟩ : ByteArray))) (fun _ hk => ⟨hk.1.1.1, ⟨hk.1.1.2, hk.1.2⟩⟩))⟩, ⟨(y27 NB426_427.out BK426.out)⟩, ⟨(by (with_reducible repeat (first | refine blk_drewN ?_ _ | refine blk_drew ?_ | refine blk_alloc ?_ _)); refine blk_put (cs := #[.int .i64 a0_0, .int .i64 a0_1, .string a0_2, .slice A0_3 l0_3.length c0_3, .slice A0_4 l0_4.length c0_4]) ?_ 2 _ rfl; (with_reducible repeat (first | refine blk_drewN ?_ _ | refine blk_drew ?_ | refine blk_alloc ?_ _)); exact BK427.out)⟩, ⟨(y5 HB.out GE426.out GE427.out)⟩⟩
      ·replace c31 := Bool.eq_false_iff.mpr c31
       subst c31
       rw [if_neg (show ¬ (false = true) by decide)] at H
       obtain rfl := Option.some.inj H
       go_wp2
       go_ret
       exact ⟨y6, (y5 HB.out GE426.out GE427.out)⟩
     ·replace c25 := Bool.eq_false_iff.mpr c25
      subst c25
      rw [if_neg (show ¬ (false = true) by decide)] at H
      obtain rfl := Option.some.inj H
      have hnb34 := NB426_427.out
      have hnc34 := NB427_426.out
      have hcz35_0 := zh BK426
      have hcz35_1 := zh1 BK426
      have hcz35_2 := zh2 BK426
      have hcz35_3 : w9.cell? ⟨gb426, 3, none⟩ = some (.slice A0_3 l0_3.length c0_3) := (blk_cell BK426.out 3).trans rfl
      have hcz35_4 : w9.cell? ⟨gb426, 4, none⟩ = some (.slice A0_4 l0_4.length c0_4) := (blk_cell BK426.out 4).trans rfl
      have hfz35_0 := zfr BK426 0
      have hfz35_1 := zfr BK426 1
      have hfz35_2 := zfr BK426 2
      have hfz35_3 := zfr BK426 3
      have hfz35_4 := zfr BK426 4
      go_wp2_with (first | ((with_reducible refine gate_callee (f := 22) rfl ?_); refine goesL_ (some 31) rfl rfl Try.func22 (by kernel_rfl) rfl #[.string a0_2] rfl y3 ?_; (with_reducible refine (impl_pureName.calls k a0_2 false _ A24.out).mono ?_); rintro e w' ⟨rfl, ⟨nd, rfl⟩⟩; refine ⟨_, rfl, ?_⟩))
      go_ret
      exact ⟨y6, (y5 HB.out GE426.out GE427.out)⟩
    ·rw [if_neg c23] at H
     have c23b0 : (a0_0 == 2) = false := beq_eq_false_iff_ne.mpr c23
     have c23b1 : (a0_0 != 2) = true := bne_iff_ne.mpr c23
     have HC36 := Aside0.mk H
     clear H
     go_upto_if 41 with (fail)
     go_cut [41] (fun v41 wc => ∃ (kq : Nat) (x41_35 : Bool), v41 = .bool x41_35 ∧ Aside0 (impl_termOk.j0 kq a1 a2 a0_0 x41_35 a0_0 a0_1 a0_2 l0_3 l0_4 a0_0 a0_1 a0_2 l0_3 l0_4 = some r) ∧ Aside0 (kq ≤ k) ∧ Aside0 (Kd.V (Kd.int .i64) 3 wc w.heap.size (fun k_ => ((P0_3_ k_ ∨ P0_4_ k_) ∨ w.heap.size ≤ k_) ∧ k_ ≠ gb426 ∧ k_ ≠ gb427) (.slice A0_3 l0_3.length c0_3) l0_3) ∧ Aside0 (Kd.V k78 78 wc w.heap.size (fun k_ => ((P0_3_ k_ ∨ P0_4_ k_) ∨ w.heap.size ≤ k_) ∧ k_ ≠ gb426 ∧ k_ ≠ gb427) (.slice A0_4 l0_4.length c0_4) l0_4) ∧ Aside0 (Kd.V (Kd.int .i64) 3 wc w.heap.size (fun k_ => ((P0_3_ k_ ∨ P0_4_ k_) ∨ w.heap.size ≤ k_) ∧ k_ ≠ gb426 ∧ k_ ≠ gb427) (.slice A0_3 l0_3.length c0_3) l0_3) ∧ Aside0 (Kd.V k78 78 wc w.heap.size (fun k_ => ((P0_3_ k_ ∨ P0_4_ k_) ∨ w.heap.size ≤ k_) ∧ k_ ≠ gb426 ∧ k_ ≠ gb427) (.slice A0_4 l0_4.length c0_4) l0_4) ∧ Aside0 (wc.heap[gb426]? = some (.cells #[.int .i64 a0_0, .int .i64 a0_1, .string a0_2, (.slice A0_3 l0_3.length c0_3), (.slice A0_4 l0_4.length c0_4)] 78 (0, 0))) ∧ Aside0 (wc.heap[gb427]? = some (.cells #[.int .i64 a0_0, .int .i64 a0_1, .string a0_2, (.slice A0_3 l0_3.length c0_3), (.slice A0_4 l0_4.length c0_4)] 78 (0, 0))) ∧ Aside0 (Below w.heap.size w wc))
     case first =>
      have H := HC36.out
      clear HC36
      by_cases c37 : a0_0 = 3
      ·rw [if_pos c37] at H
       have c37b0 : (a0_0 == 3) = true := beq_iff_eq.mpr c37
       have c37b1 : (a0_0 != 3) = false := bne_eq_false_iff_eq.mpr c37
       clear c37
       (first | rw [c37b0] | (simp only [i64_w, i32_w]; rw [c37b0]) | skip)
       have H' := Aside0.mk H
       clear H
       go_wp2
       go_meet
       case rel => exact ⟨_, ((a0_0 == 3)), y7, H', ⟨y33⟩, ⟨(by (with_reducible repeat (first | apply Kd.V_alloc | apply Kd.V_drewN | apply Kd.V_drew)); exact Kd.V_mono (Kd.V_far (p := ⟨gb427, 4, none⟩) (Kd.V_far (p := ⟨gb427, 3, none⟩) (Kd.V_far (p := ⟨gb427, 2, none⟩) (Kd.V_far (p := ⟨gb427, 1, none⟩) (Kd.V_far (p := ⟨gb427, 0, none⟩) (Kd.V_mono HO0_3.out (fun k_ hk => (⟨hk, hk.2⟩ : _ ∧ k_ ≠ gb427))) (fun _ hk => hk.2) (.int .i64 a0_0)) (fun _ hk => hk.2) (.int .i64 a0_1)) (fun _ hk => hk.2) (.string a0_2)) (fun _ hk => hk.2) (.slice A0_3 l0_3.length c0_3)) (fun _ hk => hk.2) (.slice A0_4 l0_4.length c0_4)) (fun _ hk => ⟨hk.1.1.1, ⟨hk.1.1.2, hk.1.2⟩⟩))⟩, ⟨(by (with_reducible repeat (first | apply Kd.V_alloc | apply Kd.V_drewN | apply Kd.V_drew)); exact Kd.V_mono (Kd.V_far (p := ⟨gb427, 4, none⟩) (Kd.V_far (p := ⟨gb427, 3, none⟩) (Kd.V_far (p := ⟨gb427, 2, none⟩) (Kd.V_far (p := ⟨gb427, 1, none⟩) (Kd.V_far (p := ⟨gb427, 0, none⟩) (Kd.V_mono HO0_4.out (fun k_ hk => (⟨hk, hk.2⟩ : _ ∧ k_ ≠ gb427))) (fun _ hk => hk.2) (.int .i64 a0_0)) (fun _ hk => hk.2) (.int .i64 a0_1)) (fun _ hk => hk.2) (.string a0_2)) (fun _ hk => hk.2) (.slice A0_3 l0_3.length c0_3)) (fun _ hk => hk.2) (.slice A0_4 l0_4.length c0_4)) (fun _ hk => ⟨hk.1.1.1, ⟨hk.1.1.2, hk.1.2⟩⟩))⟩, ⟨(by (with_reducible repeat (first | apply Kd.V_alloc | apply Kd.V_drewN | apply Kd.V_drew)); exact Kd.V_mono (Kd.V_far (p := ⟨gb427, 4, none⟩) (Kd.V_far (p := ⟨gb427, 3, none⟩) (Kd.V_far (p := ⟨gb427, 2, none⟩) (Kd.V_far (p := ⟨gb427, 1, none⟩) (Kd.V_far (p := ⟨gb427, 0, none⟩) (Kd.V_mono HO0_3.out (fun k_ hk => (⟨hk, hk.2⟩ : _ ∧ k_ ≠ gb427))) (fun _ hk => hk.2) (.int .i64 a0_0)) (fun _ hk => hk.2) (.int .i64 a0_1)) (fun _ hk => hk.2) (.string a0_2)) (fun _ hk => hk.2) (.slice A0_3 l0_3.length c0_3)) (fun _ hk => hk.2) (.slice A0_4 l0_4.length c0_4)) (fun _ hk => ⟨hk.1.1.1, ⟨hk.1.1.2, hk.1.2⟩⟩))⟩, ⟨(by (with_reducible repeat (first | apply Kd.V_alloc | apply Kd.V_drewN | apply Kd.V_drew)); exact Kd.V_mono (Kd.V_far (p := ⟨gb427, 4, none⟩) (Kd.V_far (p := ⟨gb427, 3, none⟩) (Kd.V_far (p := ⟨gb427, 2, none⟩) (Kd.V_far (p := ⟨gb427, 1, none⟩) (Kd.V_far (p := ⟨gb427, 0, none⟩) (Kd.V_mono HO0_4.out (fun k_ hk => (⟨hk, hk.2⟩ : _ ∧ k_ ≠ gb427))) (fun _ hk => hk.2) (.int .i64 a0_0)) (fun _ hk => hk.2) (.int .i64 a0_1)) (fun _ hk => hk.2) (.string a0_2)) (fun _ hk => hk.2) (.slice A0_3 l0_3.length c0_3)) (fun _ hk => hk.2) (.slice A0_4 l0_4.length c0_4)) (fun _ hk => ⟨hk.1.1.1, ⟨hk.1.1.2, hk.1.2⟩⟩))⟩, ⟨(y14 NB426_427.out BK426.out)⟩, ⟨(by (with_reducible repeat (first | refine blk_drewN ?_ _ | refine blk_drew ?_ | refine blk_alloc ?_ _)); refine blk_put (cs := #[.int .i64 a0_0, .int .i64 a0_1, .string a0_2, .slice A0_3 l0_3.length c0_3, .slice none 0 0]) ?_ 4 _ rfl; (with_reducible repeat (first | refine blk_drewN ?_ _ | refine blk_drew ?_ | refine blk_alloc ?_ _)); refine blk_put (cs := #[.int .i64 a0_0, .int .i64 a0_1, .string a0_2, .slice none 0 0, .slice none 0 0]) ?_ 3 _ rfl; (with_reducible repeat (first | refine blk_drewN ?_ _ | refine blk_drew ?_ | refine blk_alloc ?_ _)); refine blk_put (cs := #[.int .i64 a0_0, .int .i64 a0_1, .string (⟨#[]⟩ : ByteArray), .slice none 0 0, .slice none 0 0]) ?_ 2 _ rfl; (with_reducible repeat (first | refine blk_drewN ?_ _ | refine blk_drew ?_ | refine blk_alloc ?_ _)); refine blk_put (cs := #[.int .i64 a0_0, .int .i64 0, .string (⟨#[]⟩ : ByteArray), .slice none 0 0, .slice none 0 0]) ?_ 1 _ rfl; (with_reducible repeat (first | refine blk_drewN ?_ _ | refine blk_drew ?_ | refine blk_alloc ?_ _)); refine blk_put (cs := #[.int .i64 0, .int .i64 0, .string (⟨#[]⟩ : ByteArray), .slice none 0 0, .slice none 0 0]) ?_ 0 _ rfl; (with_reducible repeat (first | refine blk_drewN ?_ _ | refine blk_drew ?_ | refine blk_alloc ?_ _)); exact BK427.out)⟩, ⟨(y5 HB.out GE426.out GE427.out)⟩⟩
      ·rw [if_neg c37] at H
       have c37b0 : (a0_0 == 3) = false := beq_eq_false_iff_ne.mpr c37
       have c37b1 : (a0_0 != 3) = true := bne_iff_ne.mpr c37
       (first | rw [c37b0] | (simp only [i64_w, i32_w]; rw [c37b0]) | skip)
       by_cases c38 : a0_0 = 4
       ·rw [if_pos c38] at H
        have c38b0 : (a0_0 == 4) = true := beq_iff_eq.mpr c38
        have c38b1 : (a0_0 != 4) = false := bne_eq_false_iff_eq.mpr c38
        clear c38
        have H' := Aside0.mk H
        clear H
        go_wp2
        go_meet
        case rel => exact ⟨_, ((a0_0 == 4)), y7, H', ⟨y33⟩, ⟨(by (with_reducible repeat (first | apply Kd.V_alloc | apply Kd.V_drewN | apply Kd.V_drew)); exact Kd.V_mono (Kd.V_far (p := ⟨gb427, 4, none⟩) (Kd.V_far (p := ⟨gb427, 3, none⟩) (Kd.V_far (p := ⟨gb427, 2, none⟩) (Kd.V_far (p := ⟨gb427, 1, none⟩) (Kd.V_far (p := ⟨gb427, 0, none⟩) (Kd.V_mono HO0_3.out (fun k_ hk => (⟨hk, hk.2⟩ : _ ∧ k_ ≠ gb427))) (fun _ hk => hk.2) (.int .i64 a0_0)) (fun _ hk => hk.2) (.int .i64 a0_1)) (fun _ hk => hk.2) (.string a0_2)) (fun _ hk => hk.2) (.slice A0_3 l0_3.length c0_3)) (fun _ hk => hk.2) (.slice A0_4 l0_4.length c0_4)) (fun _ hk => ⟨hk.1.1.1, ⟨hk.1.1.2, hk.1.2⟩⟩))⟩, ⟨(by (with_reducible repeat (first | apply Kd.V_alloc | apply Kd.V_drewN | apply Kd.V_drew)); exact Kd.V_mono (Kd.V_far (p := ⟨gb427, 4, none⟩) (Kd.V_far (p := ⟨gb427, 3, none⟩) (Kd.V_far (p := ⟨gb427, 2, none⟩) (Kd.V_far (p := ⟨gb427, 1, none⟩) (Kd.V_far (p := ⟨gb427, 0, none⟩) (Kd.V_mono HO0_4.out (fun k_ hk => (⟨hk, hk.2⟩ : _ ∧ k_ ≠ gb427))) (fun _ hk => hk.2) (.int .i64 a0_0)) (fun _ hk => hk.2) (.int .i64 a0_1)) (fun _ hk => hk.2) (.string a0_2)) (fun _ hk => hk.2) (.slice A0_3 l0_3.length c0_3)) (fun _ hk => hk.2) (.slice A0_4 l0_4.length c0_4)) (fun _ hk => ⟨hk.1.1.1, ⟨hk.1.1.2, hk.1.2⟩⟩))⟩, ⟨(by (with_reducible repeat (first | apply Kd.V_alloc | apply Kd.V_drewN | apply Kd.V_drew)); exact Kd.V_mono (Kd.V_far (p := ⟨gb427, 4, none⟩) (Kd.V_far (p := ⟨gb427, 3, none⟩) (Kd.V_far (p := ⟨gb427, 2, none⟩) (Kd.V_far (p := ⟨gb427, 1, none⟩) (Kd.V_far (p := ⟨gb427, 0, none⟩) (Kd.V_mono HO0_3.out (fun k_ hk => (⟨hk, hk.2⟩ : _ ∧ k_ ≠ gb427))) (fun _ hk => hk.2) (.int .i64 a0_0)) (fun _ hk => hk.2) (.int .i64 a0_1)) (fun _ hk => hk.2) (.string a0_2)) (fun _ hk => hk.2) (.slice A0_3 l0_3.length c0_3)) (fun _ hk => hk.2) (.slice A0_4 l0_4.length c0_4)) (fun _ hk => ⟨hk.1.1.1, ⟨hk.1.1.2, hk.1.2⟩⟩))⟩, ⟨(by (with_reducible repeat (first | apply Kd.V_alloc | apply Kd.V_drewN | apply Kd.V_drew)); exact Kd.V_mono (Kd.V_far (p := ⟨gb427, 4, none⟩) (Kd.V_far (p := ⟨gb427, 3, none⟩) (Kd.V_far (p := ⟨gb427, 2, none⟩) (Kd.V_far (p := ⟨gb427, 1, none⟩) (Kd.V_far (p := ⟨gb427, 0, none⟩) (Kd.V_mono HO0_4.out (fun k_ hk => (⟨hk, hk.2⟩ : _ ∧ k_ ≠ gb427))) (fun _ hk => hk.2) (.int .i64 a0_0)) (fun _ hk => hk.2) (.int .i64 a0_1)) (fun _ hk => hk.2) (.string a0_2)) (fun _ hk => hk.2) (.slice A0_3 l0_3.length c0_3)) (fun _ hk => hk.2) (.slice A0_4 l0_4.length c0_4)) (fun _ hk => ⟨hk.1.1.1, ⟨hk.1.1.2, hk.1.2⟩⟩))⟩, ⟨(y14 NB426_427.out BK426.out)⟩, ⟨(by (with_reducible repeat (first | refine blk_drewN ?_ _ | refine blk_drew ?_ | refine blk_alloc ?_ _)); refine blk_put (cs := #[.int .i64 a0_0, .int .i64 a0_1, .string a0_2, .slice A0_3 l0_3.length c0_3, .slice none 0 0]) ?_ 4 _ rfl; (with_reducible repeat (first | refine blk_drewN ?_ _ | refine blk_drew ?_ | refine blk_alloc ?_ _)); refine blk_put (cs := #[.int .i64 a0_0, .int .i64 a0_1, .string a0_2, .slice none 0 0, .slice none 0 0]) ?_ 3 _ rfl; (with_reducible repeat (first | refine blk_drewN ?_ _ | refine blk_drew ?_ | refine blk_alloc ?_ _)); refine blk_put (cs := #[.int .i64 a0_0, .int .i64 a0_1, .string (⟨#[]⟩ : ByteArray), .slice none 0 0, .slice none 0 0]) ?_ 2 _ rfl; (with_reducible repeat (first | refine blk_drewN ?_ _ | refine blk_drew ?_ | refine blk_alloc ?_ _)); refine blk_put (cs := #[.int .i64 a0_0, .int .i64 0, .string (⟨#[]⟩ : ByteArray), .slice none 0 0, .slice none 0 0]) ?_ 1 _ rfl; (with_reducible repeat (first | refine blk_drewN ?_ _ | refine blk_drew ?_ | refine blk_alloc ?_ _)); refine blk_put (cs := #[.int .i64 0, .int .i64 0, .string (⟨#[]⟩ : ByteArray), .slice none 0 0, .slice none 0 0]) ?_ 0 _ rfl; (with_reducible repeat (first | refine blk_drewN ?_ _ | refine blk_drew ?_ | refine blk_alloc ?_ _)); exact BK427.out)⟩, ⟨(y5 HB.out GE426.out GE427.out)⟩⟩
       ·rw [if_neg c38] at H
        have c38b0 : (a0_0 == 4) = false := beq_eq_false_iff_ne.mpr c38
        have c38b1 : (a0_0 != 4) = true := bne_iff_ne.mpr c38
        by_cases c39 : a0_0 = 5
        ·rw [if_pos c39] at H
         have c39b0 : (a0_0 == 5) = true := beq_iff_eq.mpr c39
         have c39b1 : (a0_0 != 5) = false := bne_eq_false_iff_eq.mpr c39
         clear c39
         have H' := Aside0.mk H
         clear H
         go_wp2
         go_meet
         case rel => exact ⟨_, ((a0_0 == 5)), y7, H', ⟨y33⟩, ⟨(by (with_reducible repeat (first | apply Kd.V_alloc | apply Kd.V_drewN | apply Kd.V_drew)); exact Kd.V_mono (Kd.V_far (p := ⟨gb427, 4, none⟩) (Kd.V_far (p := ⟨gb427, 3, none⟩) (Kd.V_far (p := ⟨gb427, 2, none⟩) (Kd.V_far (p := ⟨gb427, 1, none⟩) (Kd.V_far (p := ⟨gb427, 0, none⟩) (Kd.V_mono HO0_3.out (fun k_ hk => (⟨hk, hk.2⟩ : _ ∧ k_ ≠ gb427))) (fun _ hk => hk.2) (.int .i64 a0_0)) (fun _ hk => hk.2) (.int .i64 a0_1)) (fun _ hk => hk.2) (.string a0_2)) (fun _ hk => hk.2) (.slice A0_3 l0_3.length c0_3)) (fun _ hk => hk.2) (.slice A0_4 l0_4.length c0_4)) (fun _ hk => ⟨hk.1.1.1, ⟨hk.1.1.2, hk.1.2⟩⟩))⟩, ⟨(by (with_reducible repeat (first | apply Kd.V_alloc | apply Kd.V_drewN | apply Kd.V_drew)); exact Kd.V_mono (Kd.V_far (p := ⟨gb427, 4, none⟩) (Kd.V_far (p := ⟨gb427, 3, none⟩) (Kd.V_far (p := ⟨gb427, 2, none⟩) (Kd.V_far (p := ⟨gb427, 1, none⟩) (Kd.V_far (p := ⟨gb427, 0, none⟩) (Kd.V_mono HO0_4.out (fun k_ hk => (⟨hk, hk.2⟩ : _ ∧ k_ ≠ gb427))) (fun _ hk => hk.2) (.int .i64 a0_0)) (fun _ hk => hk.2) (.int .i64 a0_1)) (fun _ hk => hk.2) (.string a0_2)) (fun _ hk => hk.2) (.slice A0_3 l0_3.length c0_3)) (fun _ hk => hk.2) (.slice A0_4 l0_4.length c0_4)) (fun _ hk => ⟨hk.1.1.1, ⟨hk.1.1.2, hk.1.2⟩⟩))⟩, ⟨(by (with_reducible repeat (first | apply Kd.V_alloc | apply Kd.V_drewN | apply Kd.V_drew)); exact Kd.V_mono (Kd.V_far (p := ⟨gb427, 4, none⟩) (Kd.V_far (p := ⟨gb427, 3, none⟩) (Kd.V_far (p := ⟨gb427, 2, none⟩) (Kd.V_far (p := ⟨gb427, 1, none⟩) (Kd.V_far (p := ⟨gb427, 0, none⟩) (Kd.V_mono HO0_3.out (fun k_ hk => (⟨hk, hk.2⟩ : _ ∧ k_ ≠ gb427))) (fun _ hk => hk.2) (.int .i64 a0_0)) (fun _ hk => hk.2) (.int .i64 a0_1)) (fun _ hk => hk.2) (.string a0_2)) (fun _ hk => hk.2) (.slice A0_3 l0_3.length c0_3)) (fun _ hk => hk.2) (.slice A0_4 l0_4.length c0_4)) (fun _ hk => ⟨hk.1.1.1, ⟨hk.1.1.2, hk.1.2⟩⟩))⟩, ⟨(by (with_reducible repeat (first | apply Kd.V_alloc | apply Kd.V_drewN | apply Kd.V_drew)); exact Kd.V_mono (Kd.V_far (p := ⟨gb427, 4, none⟩) (Kd.V_far (p := ⟨gb427, 3, none⟩) (Kd.V_far (p := ⟨gb427, 2, none⟩) (Kd.V_far (p := ⟨gb427, 1, none⟩) (Kd.V_far (p := ⟨gb427, 0, none⟩) (Kd.V_mono HO0_4.out (fun k_ hk => (⟨hk, hk.2⟩ : _ ∧ k_ ≠ gb427))) (fun _ hk => hk.2) (.int .i64 a0_0)) (fun _ hk => hk.2) (.int .i64 a0_1)) (fun _ hk => hk.2) (.string a0_2)) (fun _ hk => hk.2) (.slice A0_3 l0_3.length c0_3)) (fun _ hk => hk.2) (.slice A0_4 l0_4.length c0_4)) (fun _ hk => ⟨hk.1.1.1, ⟨hk.1.1.2, hk.1.2⟩⟩))⟩, ⟨(y14 NB426_427.out BK426.out)⟩, ⟨(by (with_reducible repeat (first | refine blk_drewN ?_ _ | refine blk_drew ?_ | refine blk_alloc ?_ _)); refine blk_put (cs := #[.int .i64 a0_0, .int .i64 a0_1, .string a0_2, .slice A0_3 l0_3.length c0_3, .slice none 0 0]) ?_ 4 _ rfl; (with_reducible repeat (first | refine blk_drewN ?_ _ | refine blk_drew ?_ | refine blk_alloc ?_ _)); refine blk_put (cs := #[.int .i64 a0_0, .int .i64 a0_1, .string a0_2, .slice none 0 0, .slice none 0 0]) ?_ 3 _ rfl; (with_reducible repeat (first | refine blk_drewN ?_ _ | refine blk_drew ?_ | refine blk_alloc ?_ _)); refine blk_put (cs := #[.int .i64 a0_0, .int .i64 a0_1, .string (⟨#[]⟩ : ByteArray), .slice none 0 0, .slice none 0 0]) ?_ 2 _ rfl; (with_reducible repeat (first | refine blk_drewN ?_ _ | refine blk_drew ?_ | refine blk_alloc ?_ _)); refine blk_put (cs := #[.int .i64 a0_0, .int .i64 0, .string (⟨#[]⟩ : ByteArray), .slice none 0 0, .slice none 0 0]) ?_ 1 _ rfl; (with_reducible repeat (first | refine blk_drewN ?_ _ | refine blk_drew ?_ | refine blk_alloc ?_ _)); refine blk_put (cs := #[.int .i64 0, .int .i64 0, .string (⟨#[]⟩ : ByteArray), .slice none 0 0, .slice none 0 0]) ?_ 0 _ rfl; (with_reducible repeat (first | refine blk_drewN ?_ _ | refine blk_drew ?_ | refine blk_alloc ?_ _)); exact BK427.out)⟩, ⟨(y5 HB.out GE426.out GE427.out)⟩⟩
        ·rw [if_neg c39] at H
         have c39b0 : (a0_0 == 5) = false := beq_eq_false_iff_ne.mpr c39
         have c39b1 : (a0_0 != 5) = true := bne_iff_ne.mpr c39
         have H' := Aside0.mk H
         clear H
         go_wp2
         go_meet
         case rel => exact ⟨_, ((a0_0 == 6)), y7, H', ⟨y33⟩, ⟨(by (with_reducible repeat (first | apply Kd.V_alloc | apply Kd.V_drewN | apply Kd.V_drew)); exact Kd.V_mono (Kd.V_far (p := ⟨gb427, 4, none⟩) (Kd.V_far (p := ⟨gb427, 3, none⟩) (Kd.V_far (p := ⟨gb427, 2, none⟩) (Kd.V_far (p := ⟨gb427, 1, none⟩) (Kd.V_far (p := ⟨gb427, 0, none⟩) (Kd.V_mono HO0_3.out (fun k_ hk => (⟨hk, hk.2⟩ : _ ∧ k_ ≠ gb427))) (fun _ hk => hk.2) (.int .i64 a0_0)) (fun _ hk => hk.2) (.int .i64 a0_1)) (fun _ hk => hk.2) (.string a0_2)) (fun _ hk => hk.2) (.slice A0_3 l0_3.length c0_3)) (fun _ hk => hk.2) (.slice A0_4 l0_4.length c0_4)) (fun _ hk => ⟨hk.1.1.1, ⟨hk.1.1.2, hk.1.2⟩⟩))⟩, ⟨(by (with_reducible repeat (first | apply Kd.V_alloc | apply Kd.V_drewN | apply Kd.V_drew)); exact Kd.V_mono (Kd.V_far (p := ⟨gb427, 4, none⟩) (Kd.V_far (p := ⟨gb427, 3, none⟩) (Kd.V_far (p := ⟨gb427, 2, none⟩) (Kd.V_far (p := ⟨gb427, 1, none⟩) (Kd.V_far (p := ⟨gb427, 0, none⟩) (Kd.V_mono HO0_4.out (fun k_ hk => (⟨hk, hk.2⟩ : _ ∧ k_ ≠ gb427))) (fun _ hk => hk.2) (.int .i64 a0_0)) (fun _ hk => hk.2) (.int .i64 a0_1)) (fun _ hk => hk.2) (.string a0_2)) (fun _ hk => hk.2) (.slice A0_3 l0_3.length c0_3)) (fun _ hk => hk.2) (.slice A0_4 l0_4.length c0_4)) (fun _ hk => ⟨hk.1.1.1, ⟨hk.1.1.2, hk.1.2⟩⟩))⟩, ⟨(by (with_reducible repeat (first | apply Kd.V_alloc | apply Kd.V_drewN | apply Kd.V_drew)); exact Kd.V_mono (Kd.V_far (p := ⟨gb427, 4, none⟩) (Kd.V_far (p := ⟨gb427, 3, none⟩) (Kd.V_far (p := ⟨gb427, 2, none⟩) (Kd.V_far (p := ⟨gb427, 1, none⟩) (Kd.V_far (p := ⟨gb427, 0, none⟩) (Kd.V_mono HO0_3.out (fun k_ hk => (⟨hk, hk.2⟩ : _ ∧ k_ ≠ gb427))) (fun _ hk => hk.2) (.int .i64 a0_0)) (fun _ hk => hk.2) (.int .i64 a0_1)) (fun _ hk => hk.2) (.string a0_2)) (fun _ hk => hk.2) (.slice A0_3 l0_3.length c0_3)) (fun _ hk => hk.2) (.slice A0_4 l0_4.length c0_4)) (fun _ hk => ⟨hk.1.1.1, ⟨hk.1.1.2, hk.1.2⟩⟩))⟩, ⟨(by (with_reducible repeat (first | apply Kd.V_alloc | apply Kd.V_drewN | apply Kd.V_drew)); exact Kd.V_mono (Kd.V_far (p := ⟨gb427, 4, none⟩) (Kd.V_far (p := ⟨gb427, 3, none⟩) (Kd.V_far (p := ⟨gb427, 2, none⟩) (Kd.V_far (p := ⟨gb427, 1, none⟩) (Kd.V_far (p := ⟨gb427, 0, none⟩) (Kd.V_mono HO0_4.out (fun k_ hk => (⟨hk, hk.2⟩ : _ ∧ k_ ≠ gb427))) (fun _ hk => hk.2) (.int .i64 a0_0)) (fun _ hk => hk.2) (.int .i64 a0_1)) (fun _ hk => hk.2) (.string a0_2)) (fun _ hk => hk.2) (.slice A0_3 l0_3.length c0_3)) (fun _ hk => hk.2) (.slice A0_4 l0_4.length c0_4)) (fun _ hk => ⟨hk.1.1.1, ⟨hk.1.1.2, hk.1.2⟩⟩))⟩, ⟨(y14 NB426_427.out BK426.out)⟩, ⟨(by (with_reducible repeat (first | refine blk_drewN ?_ _ | refine blk_drew ?_ | refine blk_alloc ?_ _)); refine blk_put (cs := #[.int .i64 a0_0, .int .i64 a0_1, .string a0_2, .slice A0_3 l0_3.length c0_3, .slice none 0 0]) ?_ 4 _ rfl; (with_reducible repeat (first | refine blk_drewN ?_ _ | refine blk_drew ?_ | refine blk_alloc ?_ _)); refine blk_put (cs := #[.int .i64 a0_0, .int .i64 a0_1, .string a0_2, .slice none 0 0, .slice none 0 0]) ?_ 3 _ rfl; (with_reducible repeat (first | refine blk_drewN ?_ _ | refine blk_drew ?_ | refine blk_alloc ?_ _)); refine blk_put (cs := #[.int .i64 a0_0, .int .i64 a0_1, .string (⟨#[]⟩ : ByteArray), .slice none 0 0, .slice none 0 0]) ?_ 2 _ rfl; (with_reducible repeat (first | refine blk_drewN ?_ _ | refine blk_drew ?_ | refine blk_alloc ?_ _)); refine blk_put (cs := #[.int .i64 a0_0, .int .i64 0, .string (⟨#[]⟩ : ByteArray), .slice none 0 0, .slice none 0 0]) ?_ 1 _ rfl; (with_reducible repeat (first | refine blk_drewN ?_ _ | refine blk_drew ?_ | refine blk_alloc ?_ _)); refine blk_put (cs := #[.int .i64 0, .int .i64 0, .string (⟨#[]⟩ : ByteArray), .slice none 0 0, .slice none 0 0]) ?_ 0 _ rfl; (with_reducible repeat (first | refine blk_drewN ?_ _ | refine blk_drew ?_ | refine blk_alloc ?_ _)); exact BK427.out)⟩, ⟨(y5 HB.out GE426.out GE427.out)⟩⟩
     case rest =>
      clear HC36
      try clear c1
      try clear c2
      try clear p2
      try clear c3
      try clear c5
      try clear c6
      try clear c6b0
      try clear c10
      try clear c13
      try clear c13b0
      try clear c13b1
      try clear c14
      try clear c14b0
      try clear c15
      try clear c17
      try clear c17b0
      try clear c18
      try clear c20
      try clear c22
      try clear c23
      try clear c23b0
      try clear c23b1
      try clear c25
      try clear c28
      try clear c31
      try clear c32
      try clear c34
      try clear c37
      try clear c37b0
      try clear c37b1
      try clear c38
      try clear c38b0
      try clear c38b1
      try clear c39
      try clear c39b0
      try clear c39b1
      try clear hcz11_0
      try clear hcz11_1
      try clear hcz11_2
      try clear hcz11_3
      try clear hcz11_4
      try clear hcz12_0
      try clear hcz12_1
      try clear hcz12_2
      try clear hcz12_3
      try clear hcz12_4
      try clear hcz16_0
      try clear hcz16_1
      try clear hcz16_2
      try clear hcz16_3
      try clear hcz16_4
      try clear hcz19_0
      try clear hcz19_1
      try clear hcz19_2
      try clear hcz19_3
      try clear hcz19_4
      try clear hcz21_0
      try clear hcz21_1
      try clear hcz21_2
      try clear hcz21_3
      try clear hcz21_4
      try clear hcz22_0
      try clear hcz22_1
      try clear hcz22_2
      try clear hcz22_3
      try clear hcz22_4
      try clear hcz29_0
      try clear hcz29_1
      try clear hcz29_2
      try clear hcz29_3
      try clear hcz29_4
      try clear hcz33_0
      try clear hcz33_1
      try clear hcz33_2
      try clear hcz33_3
      try clear hcz33_4
      try clear hcz35_0
      try clear hcz35_1
      try clear hcz35_2
      try clear hcz35_3
      try clear hcz35_4
      try clear hcz8_0
      try clear hcz8_1
      try clear hcz8_2
      try clear hcz8_3
      try clear hcz8_4
      try clear hfz11_0
      try clear hfz11_1
      try clear hfz11_2
      try clear hfz11_3
      try clear hfz11_4
      try clear hfz12_0
      try clear hfz12_1
      try clear hfz12_2
      try clear hfz12_3
      try clear hfz12_4
      try clear hfz16_0
      try clear hfz16_1
      try clear hfz16_2
      try clear hfz16_3
      try clear hfz16_4
      try clear hfz19_0
      try clear hfz19_1
      try clear hfz19_2
      try clear hfz19_3
      try clear hfz19_4
      try clear hfz21_0
      try clear hfz21_1
      try clear hfz21_2
      try clear hfz21_3
      try clear hfz21_4
      try clear hfz22_0
      try clear hfz22_1
      try clear hfz22_2
      try clear hfz22_3
      try clear hfz22_4
      try clear hfz29_0
      try clear hfz29_1
      try clear hfz29_2
      try clear hfz29_3
      try clear hfz29_4
      try clear hfz33_0
      try clear hfz33_1
      try clear hfz33_2
      try clear hfz33_3
      try clear hfz33_4
      try clear hfz35_0
      try clear hfz35_1
      try clear hfz35_2
      try clear hfz35_3
      try clear hfz35_4
      try clear hfz8_0
      try clear hfz8_1
      try clear hfz8_2
      try clear hfz8_3
      try clear hfz8_4
      obtain ⟨kq, x41_35, rfl, HA, HJ35, HO_427003, HO_427004, HO_428003, HO_428004, BK426, BK427, HB⟩ := hcut
      cases kq with
      | zero => exact absurd HA.out (by simp [impl_termOk.j0])
      | succ kj35 =>
       have H := HA.out
       clear HA
       simp only [impl_termOk.j0] at H
       by_cases c40 : x41_35 = true
       ·subst c40
        rw [if_pos rfl] at H
        have H' := Aside0.mk H
        clear H
        go_wp2
        go_meet
        case rel => exact ⟨_, (2), (a0_1), (a0_2), (l0_3), (.slice A0_3 l0_3.length c0_3), y7, H', ⟨(y34 HJ35.out)⟩, ⟨(y13 HO_427003.out)⟩, ⟨(y13 HO_427004.out)⟩, ⟨(y13 HO_428003.out)⟩, ⟨(y13 HO_428004.out)⟩, ⟨(y8 BK426.out)⟩, ⟨(y8 BK427.out)⟩, ⟨(y5 HB.out GE426.out GE427.out)⟩⟩
       ·replace c40 := Bool.eq_false_iff.mpr c40
        subst c40
        rw [if_neg (show ¬ (false = true) by decide)] at H
        have HC41 := Aside0.mk H
        clear H
        go_upto_if 46 with (fail)
        go_cut [46] (fun v46 wc => ∃ (kq : Nat) (x46_40 : Bool), v46 = .bool x46_40 ∧ Aside0 (impl_termOk.j1 kq a1 a2 x46_40 a0_0 a0_1 a0_2 l0_3 l0_4 a0_0 a0_1 a0_2 l0_3 l0_4 = some r) ∧ Aside0 (kq ≤ kj35) ∧ Aside0 (Kd.V (Kd.int .i64) 3 wc w.heap.size (fun k_ => ((P0_3_ k_ ∨ P0_4_ k_) ∨ w.heap.size ≤ k_) ∧ k_ ≠ gb426 ∧ k_ ≠ gb427) (.slice A0_3 l0_3.length c0_3) l0_3) ∧ Aside0 (Kd.V k78 78 wc w.heap.size (fun k_ => ((P0_3_ k_ ∨ P0_4_ k_) ∨ w.heap.size ≤ k_) ∧ k_ ≠ gb426 ∧ k_ ≠ gb427) (.slice A0_4 l0_4.length c0_4) l0_4) ∧ Aside0 (Kd.V (Kd.int .i64) 3 wc w.heap.size (fun k_ => ((P0_3_ k_ ∨ P0_4_ k_) ∨ w.heap.size ≤ k_) ∧ k_ ≠ gb426 ∧ k_ ≠ gb427) (.slice A0_3 l0_3.length c0_3) l0_3) ∧ Aside0 (Kd.V k78 78 wc w.heap.size (fun k_ => ((P0_3_ k_ ∨ P0_4_ k_) ∨ w.heap.size ≤ k_) ∧ k_ ≠ gb426 ∧ k_ ≠ gb427) (.slice A0_4 l0_4.length c0_4) l0_4) ∧ Aside0 (wc.heap[gb426]? = some (.cells #[.int .i64 a0_0, .int .i64 a0_1, .string a0_2, (.slice A0_3 l0_3.length c0_3), (.slice A0_4 l0_4.length c0_4)] 78 (0, 0))) ∧ Aside0 (wc.heap[gb427]? = some (.cells #[.int .i64 a0_0, .int .i64 a0_1, .string a0_2, (.slice A0_3 l0_3.length c0_3), (.slice A0_4 l0_4.length c0_4)] 78 (0, 0))) ∧ Aside0 (Below w.heap.size w wc))
        case first =>
         have H := HC41.out
         clear HC41
         by_cases c42 : a0_0 = 7
         ·rw [if_pos c42] at H
          have c42b0 : (a0_0 == 7) = true := beq_iff_eq.mpr c42
          have c42b1 : (a0_0 != 7) = false := bne_eq_false_iff_eq.mpr c42
          clear c42
          (first | rw [c42b0] | (simp only [i64_w, i32_w]; rw [c42b0]) | skip)
          have H' := Aside0.mk H
          clear H
          go_wp2
          go_meet
          case rel => exact ⟨_, ((a0_0 == 7)), y7, H', ⟨(y34 HJ35.out)⟩, ⟨(y13 HO_427003.out)⟩, ⟨(y13 HO_427004.out)⟩, ⟨(y13 HO_428003.out)⟩, ⟨(y13 HO_428004.out)⟩, ⟨(y8 BK426.out)⟩, ⟨(y8 BK427.out)⟩, ⟨(y5 HB.out GE426.out GE427.out)⟩⟩
         ·rw [if_neg c42] at H
          have c42b0 : (a0_0 == 7) = false := beq_eq_false_iff_ne.mpr c42
          have c42b1 : (a0_0 != 7) = true := bne_iff_ne.mpr c42
          (first | rw [c42b0] | (simp only [i64_w, i32_w]; rw [c42b0]) | skip)
          have H' := Aside0.mk H
          clear H
          go_wp2
          go_meet
          case rel => exact ⟨_, ((a0_0 == 8)), y7, H', ⟨(y34 HJ35.out)⟩, ⟨(y13 HO_427003.out)⟩, ⟨(y13 HO_427004.out)⟩, ⟨(y13 HO_428003.out)⟩, ⟨(y13 HO_428004.out)⟩, ⟨(y8 BK426.out)⟩, ⟨(y8 BK427.out)⟩, ⟨(y5 HB.out GE426.out GE427.out)⟩⟩
        case rest =>
         clear HC41
         try clear c1
         try clear c2
         try clear p2
         try clear c3
         try clear c4
         try clear c5
         try clear c6
         try clear c6b0
         try clear c10
         try clear c13
         try clear c13b0
         try clear c13b1
         try clear c14
         try clear c14b0
         try clear c15
         try clear c17
         try clear c17b0
         try clear c18
         try clear c20
         try clear c22
         try clear c23
         try clear c23b0
         try clear c23b1
         try clear c25
         try clear c28
         try clear c31
         try clear c32
         try clear c34
         try clear c37
         try clear c37b0
         try clear c37b1
         try clear c38
         try clear c38b0
         try clear c38b1
         try clear c39
         try clear c39b0
         try clear c39b1
         try clear c40
         try clear c42
         try clear c42b0
         try clear c42b1
         try clear hcz11_0
         try clear hcz11_1
         try clear hcz11_2
         try clear hcz11_3
         try clear hcz11_4
         try clear hcz12_0
         try clear hcz12_1
         try clear hcz12_2
         try clear hcz12_3
         try clear hcz12_4
         try clear hcz16_0
         try clear hcz16_1
         try clear hcz16_2
         try clear hcz16_3
         try clear hcz16_4
         try clear hcz19_0
         try clear hcz19_1
         try clear hcz19_2
         try clear hcz19_3
         try clear hcz19_4
         try clear hcz21_0
         try clear hcz21_1
         try clear hcz21_2
         try clear hcz21_3
         try clear hcz21_4
         try clear hcz22_0
         try clear hcz22_1
         try clear hcz22_2
         try clear hcz22_3
         try clear hcz22_4
         try clear hcz29_0
         try clear hcz29_1
         try clear hcz29_2
         try clear hcz29_3
         try clear hcz29_4
         try clear hcz33_0
         try clear hcz33_1
         try clear hcz33_2
         try clear hcz33_3
         try clear hcz33_4
         try clear hcz35_0
         try clear hcz35_1
         try clear hcz35_2
         try clear hcz35_3
         try clear hcz35_4
         try clear hcz8_0
         try clear hcz8_1
         try clear hcz8_2
         try clear hcz8_3
         try clear hcz8_4
         try clear hfz11_0
         try clear hfz11_1
         try clear hfz11_2
         try clear hfz11_3
         try clear hfz11_4
         try clear hfz12_0
         try clear hfz12_1
         try clear hfz12_2
         try clear hfz12_3
         try clear hfz12_4
         try clear hfz16_0
         try clear hfz16_1
         try clear hfz16_2
         try clear hfz16_3
         try clear hfz16_4
         try clear hfz19_0
         try clear hfz19_1
         try clear hfz19_2
         try clear hfz19_3
         try clear hfz19_4
         try clear hfz21_0
         try clear hfz21_1
         try clear hfz21_2
         try clear hfz21_3
         try clear hfz21_4
         try clear hfz22_0
         try clear hfz22_1
         try clear hfz22_2
         try clear hfz22_3
         try clear hfz22_4
         try clear hfz29_0
         try clear hfz29_1
         try clear hfz29_2
         try clear hfz29_3
         try clear hfz29_4
         try clear hfz33_0
         try clear hfz33_1
         try clear hfz33_2
         try clear hfz33_3
         try clear hfz33_4
         try clear hfz35_0
         try clear hfz35_1
         try clear hfz35_2
         try clear hfz35_3
         try clear hfz35_4
         try clear hfz8_0
         try clear hfz8_1
         try clear hfz8_2
         try clear hfz8_3
         try clear hfz8_4
         try clear p2
         obtain ⟨kq, x46_40, rfl, HA, HJ40, HO_427003, HO_427004, HO_428003, HO_428004, BK426, BK427, HB⟩ := hcut
         cases kq with
         | zero => exact absurd HA.out (by simp [impl_termOk.j1])
         | succ kj40 =>
          have H := HA.out
          clear HA
          simp only [impl_termOk.j1] at H
          by_cases c43 : x46_40 = true
          ·subst c43
           rw [if_pos rfl] at H
           obtain ⟨t430, A440, H⟩ := ob H
           have A44 := Aside0.mk A440
           clear A440
           have HZ45 := Aside0.mk H
           clear H
           have hnb46 := NB426_427.out
           have hnc46 := NB427_426.out
           have hcz47_0 := zh BK426
           have hcz47_1 := zh1 BK426
           have hcz47_2 := zh2 BK426
           have hcz47_3 : wc.cell? ⟨gb426, 3, none⟩ = some (.slice A0_3 l0_3.length c0_3) := (blk_cell BK426.out 3).trans rfl
           have hcz47_4 : wc.cell? ⟨gb426, 4, none⟩ = some (.slice A0_4 l0_4.length c0_4) := (blk_cell BK426.out 4).trans rfl
           have hfz47_0 := zfr BK426 0
           have hfz47_1 := zfr BK426 1
           have hfz47_2 := zfr BK426 2
           have hfz47_3 := zfr BK426 3
           have hfz47_4 := zfr BK426 4
           go_upto_if 52 with (first | ((with_reducible refine gate_callee (f := 64) rfl ?_); refine goesL_ (some 51) rfl rfl Try.func64 (by kernel_rfl) rfl #[.slice A0_3 l0_3.length c0_3] rfl y3 ?_; (with_reducible refine (impl_pathForm.calls kj40 _ _ l0_3 t430 _ ?side1 ?side2 A44.out).mono ?_); (case side1 => repeat (first | exact (Kd.V_reads' HO_427003.out).2.2 | (with_reducible refine Kd.C_alloc ?_ _) | (with_reducible refine Kd.C_drewN ?_ _) | (with_reducible refine Kd.C_drew ?_))); (case side2 => exact (Kd.V_reads' HO_427003.out).2.1); rintro e w' ⟨rfl, ⟨nd, rfl⟩⟩; refine ⟨_, rfl, ?_⟩; (try (rw [drewN_self wc]; generalize hq_ : World.drewN wc _ = wc; have n0_ : Aside0 (Kd.V (Kd.int .i64) 3 wc w.heap.size (fun k_ => ((P0_3_ k_ ∨ P0_4_ k_) ∨ w.heap.size ≤ k_) ∧ k_ ≠ gb426 ∧ k_ ≠ gb427) (.slice A0_3 l0_3.length c0_3) l0_3) := ⟨(by rw [← hq_]; exact (y13 HO_427003.out))⟩; have n1_ : Aside0 (Kd.V k78 78 wc w.heap.size (fun k_ => ((P0_3_ k_ ∨ P0_4_ k_) ∨ w.heap.size ≤ k_) ∧ k_ ≠ gb426 ∧ k_ ≠ gb427) (.slice A0_4 l0_4.length c0_4) l0_4) := ⟨(by rw [← hq_]; exact (y13 HO_427004.out))⟩; have n2_ : Aside0 (Kd.V (Kd.int .i64) 3 wc w.heap.size (fun k_ => ((P0_3_ k_ ∨ P0_4_ k_) ∨ w.heap.size ≤ k_) ∧ k_ ≠ gb426 ∧ k_ ≠ gb427) (.slice A0_3 l0_3.length c0_3) l0_3) := ⟨(by rw [← hq_]; exact (y13 HO_428003.out))⟩; have n3_ : Aside0 (Kd.V k78 78 wc w.heap.size (fun k_ => ((P0_3_ k_ ∨ P0_4_ k_) ∨ w.heap.size ≤ k_) ∧ k_ ≠ gb426 ∧ k_ ≠ gb427) (.slice A0_4 l0_4.length c0_4) l0_4) := ⟨(by rw [← hq_]; exact (y13 HO_428004.out))⟩; have n4_ : Aside0 (wc.heap[gb426]? = some (.cells #[.int .i64 a0_0, .int .i64 a0_1, .string a0_2, .slice A0_3 l0_3.length c0_3, .slice A0_4 l0_4.length c0_4] 78 (0, 0))) := ⟨(by rw [← hq_]; exact (y8 BK426.out))⟩; have n5_ : Aside0 (wc.heap[gb427]? = some (.cells #[.int .i64 a0_0, .int .i64 a0_1, .string a0_2, .slice A0_3 l0_3.length c0_3, .slice A0_4 l0_4.length c0_4] 78 (0, 0))) := ⟨(by rw [← hq_]; exact (y8 BK427.out))⟩; have n6_ : Aside0 (Below w.heap.size w wc) := ⟨(by rw [← hq_]; exact (y5 HB.out GE426.out GE427.out))⟩; clear HO_427003 HO_427004 HO_428003 HO_428004 BK426 BK427 HB hq_; have HO_427003 := n0_; have HO_427004 := n1_; have HO_428003 := n2_; have HO_428004 := n3_; have BK426 := n4_; have BK427 := n5_; have HB := n6_; clear n0_ n1_ n2_ n3_ n4_ n5_ n6_))))
           (try simp only [Act.put, List.setIfInBounds_toArray, List.set_cons_zero, List.set_cons_succ])
           have H := HZ45.out
           clear HZ45
           by_cases c48 : t430 = true
           ·subst c48
            rw [if_pos rfl] at H
            have H' := Aside0.mk H
            clear H
            have hnb49 := NB427_426.out
            have hnc49 := NB426_427.out
            have hcz50_0 := zh BK427
            have hcz50_1 := zh1 BK427
            have hcz50_2 := zh2 BK427
            have hcz50_3 : wc.cell? ⟨gb427, 3, none⟩ = some (.slice A0_3 l0_3.length c0_3) := (blk_cell BK427.out 3).trans rfl
            have hcz50_4 : wc.cell? ⟨gb427, 4, none⟩ = some (.slice A0_4 l0_4.length c0_4) := (blk_cell BK427.out 4).trans rfl
            have hfz50_0 := zfr BK427 0
            have hfz50_1 := zfr BK427 1
            have hfz50_2 := zfr BK427 2
            have hfz50_3 := zfr BK427 3
            have hfz50_4 := zfr BK427 4
            have hcz51_0 := zh BK426
            have hcz51_1 := zh1 BK426
            have hcz51_2 := zh2 BK426
            have hcz51_3 : wc.cell? ⟨gb426, 3, none⟩ = some (.slice A0_3 l0_3.length c0_3) := (blk_cell BK426.out 3).trans rfl
            have hcz51_4 : wc.cell? ⟨gb426, 4, none⟩ = some (.slice A0_4 l0_4.length c0_4) := (blk_cell BK426.out 4).trans rfl
            have hfz51_0 := zfr BK426 0
            have hfz51_1 := zfr BK426 1
            have hfz51_2 := zfr BK426 2
            have hfz51_3 := zfr BK426 3
            have hfz51_4 := zfr BK426 4
            go_wp2
            go_meet
            case rel => exact ⟨_, (wrap64 ((wrap64 (1 + a0_0)) - 7)), (a0_1), (a0_2), (([] : List Int)), (.slice none 0 0), y7, H', ⟨(by have := HJ35.out; have := HJ40.out; first | omega | exact Nat.le_refl _)⟩, ⟨(by (with_reducible repeat (first | apply Kd.V_alloc | apply Kd.V_drewN | apply Kd.V_drew)); exact Kd.V_mono (Kd.V_far (p := ⟨gb427, 3, none⟩) (Kd.V_mono HO_427003.out (fun k_ hk => (⟨hk, hk.2.2⟩ : _ ∧ k_ ≠ gb427))) (fun _ hk => hk.2) (.slice none 0 0)) (fun _ hk => ⟨hk.1.1, ⟨hk.1.2.1, hk.1.2.2⟩⟩))⟩, ⟨(by (with_reducible repeat (first | apply Kd.V_alloc | apply Kd.V_drewN | apply Kd.V_drew)); exact Kd.V_mono (Kd.V_far (p := ⟨gb427, 3, none⟩) (Kd.V_mono HO_427004.out (fun k_ hk => (⟨hk, hk.2.2⟩ : _ ∧ k_ ≠ gb427))) (fun _ hk => hk.2) (.slice none 0 0)) (fun _ hk => ⟨hk.1.1, ⟨hk.1.2.1, hk.1.2.2⟩⟩))⟩, ⟨Kd.V_nil _ _ _ _ _⟩, ⟨(by (with_reducible repeat (first | apply Kd.V_alloc | apply Kd.V_drewN | apply Kd.V_drew)); exact Kd.V_mono (Kd.V_far (p := ⟨gb427, 3, none⟩) (Kd.V_mono HO_428004.out (fun k_ hk => (⟨hk, hk.2.2⟩ : _ ∧ k_ ≠ gb427))) (fun _ hk => hk.2) (.slice none 0 0)) (fun _ hk => ⟨hk.1.1, ⟨hk.1.2.1, hk.1.2.2⟩⟩))⟩, ⟨(y27 NB426_427.out BK426.out)⟩, ⟨(by (with_reducible repeat (first | refine blk_drewN ?_ _ | refine blk_drew ?_ | refine blk_alloc ?_ _)); refine blk_put (cs := #[.int .i64 a0_0, .int .i64 a0_1, .string a0_2, .slice A0_3 l0_3.length c0_3, .slice A0_4 l0_4.length c0_4]) ?_ 3 _ rfl; (with_reducible repeat (first | refine blk_drewN ?_ _ | refine blk_drew ?_ | refine blk_alloc ?_ _)); exact BK427.out)⟩, ⟨(y5 HB.out GE426.out GE427.out)⟩⟩
           ·replace c48 := Bool.eq_false_iff.mpr c48
            subst c48
            rw [if_neg (show ¬ (false = true) by decide)] at H
            obtain rfl := Option.some.inj H
            go_wp2
            go_ret
            exact ⟨y6, (y5 HB.out GE426.out GE427.out)⟩
          ·replace c43 := Bool.eq_false_iff.mpr c43
           subst c43
           rw [if_neg (show ¬ (false = true) by decide)] at H
           obtain rfl := Option.some.inj H
           go_wp2
           go_ret
           exact ⟨y6, (y5 HB.out GE426.out GE427.out)⟩
  case rest =>
   clear HC7
   try clear c1
   try clear c2
   try clear p2
   try clear c3
   try clear c4
   try clear c5
   try clear c6
   try clear c6b0
   try clear p6
   try clear c10
   try clear c13
   try clear c13b0
   try clear c13b1
   try clear c14
   try clear c14b0
   try clear c15
   try clear c17
   try clear c17b0
   try clear c18
   try clear c20
   try clear c22
   try clear c23
   try clear c23b0
   try clear c23b1
   try clear c25
   try clear c28
   try clear c31
   try clear c32
   try clear c34
   try clear c37
   try clear c37b0
   try clear c37b1
   try clear c38
   try clear c38b0
   try clear c38b1
   try clear c39
   try clear c39b0
   try clear c39b1
   try clear c40
   try clear c42
   try clear c42b0
   try clear c42b1
   try clear c43
   try clear c46
   try clear c48
   try clear c49
   try clear hcz11_0
   try clear hcz11_1
   try clear hcz11_2
   try clear hcz11_3
   try clear hcz11_4
   try clear hcz12_0
   try clear hcz12_1
   try clear hcz12_2
   try clear hcz12_3
   try clear hcz12_4
   try clear hcz16_0
   try clear hcz16_1
   try clear hcz16_2
   try clear hcz16_3
   try clear hcz16_4
   try clear hcz19_0
   try clear hcz19_1
   try clear hcz19_2
   try clear hcz19_3
   try clear hcz19_4
   try clear hcz21_0
   try clear hcz21_1
   try clear hcz21_2
   try clear hcz21_3
   try clear hcz21_4
   try clear hcz22_0
   try clear hcz22_1
   try clear hcz22_2
   try clear hcz22_3
   try clear hcz22_4
   try clear hcz29_0
   try clear hcz29_1
   try clear hcz29_2
   try clear hcz29_3
   try clear hcz29_4
   try clear hcz33_0
   try clear hcz33_1
   try clear hcz33_2
   try clear hcz33_3
   try clear hcz33_4
   try clear hcz35_0
   try clear hcz35_1
   try clear hcz35_2
   try clear hcz35_3
   try clear hcz35_4
   try clear hcz47_0
   try clear hcz47_1
   try clear hcz47_2
   try clear hcz47_3
   try clear hcz47_4
   try clear hcz50_0
   try clear hcz50_1
   try clear hcz50_2
   try clear hcz50_3
   try clear hcz50_4
   try clear hcz51_0
   try clear hcz51_1
   try clear hcz51_2
   try clear hcz51_3
   try clear hcz51_4
   try clear hcz8_0
   try clear hcz8_1
   try clear hcz8_2
   try clear hcz8_3
   try clear hcz8_4
   try clear hfz11_0
   try clear hfz11_1
   try clear hfz11_2
   try clear hfz11_3
   try clear hfz11_4
   try clear hfz12_0
   try clear hfz12_1
   try clear hfz12_2
   try clear hfz12_3
   try clear hfz12_4
   try clear hfz16_0
   try clear hfz16_1
   try clear hfz16_2
   try clear hfz16_3
   try clear hfz16_4
   try clear hfz19_0
   try clear hfz19_1
   try clear hfz19_2
   try clear hfz19_3
   try clear hfz19_4
   try clear hfz21_0
   try clear hfz21_1
   try clear hfz21_2
   try clear hfz21_3
   try clear hfz21_4
   try clear hfz22_0
   try clear hfz22_1
   try clear hfz22_2
   try clear hfz22_3
   try clear hfz22_4
   try clear hfz29_0
   try clear hfz29_1
   try clear hfz29_2
   try clear hfz29_3
   try clear hfz29_4
   try clear hfz33_0
   try clear hfz33_1
   try clear hfz33_2
   try clear hfz33_3
   try clear hfz33_4
   try clear hfz35_0
   try clear hfz35_1
   try clear hfz35_2
   try clear hfz35_3
   try clear hfz35_4
   try clear hfz47_0
   try clear hfz47_1
   try clear hfz47_2
   try clear hfz47_3
   try clear hfz47_4
   try clear hfz50_0
   try clear hfz50_1
   try clear hfz50_2
   try clear hfz50_3
   try clear hfz50_4
   try clear hfz51_0
   try clear hfz51_1
   try clear hfz51_2
   try clear hfz51_3
   try clear hfz51_4
   try clear hfz8_0
   try clear hfz8_1
   try clear hfz8_2
   try clear hfz8_3
   try clear hfz8_4
   try clear p2
   obtain ⟨kq, x8_6, x428001_6, x428002_6, x428003_6, u428003, rfl, HA, HJ6, HO_427003, HO_427004, HO_428003, HO_428004, BK426, BK427, HB⟩ := hcut
   cases kq with
   | zero => exact absurd HA.out (by simp [impl_termOk.j2])
   | succ kj6 =>
    have H := HA.out
    clear HA
    simp only [impl_termOk.j2] at H
    have HC52 := Aside0.mk H
    clear H
    go_upto_region 25 with (fail)
    go_cut [78] (fun v78 wc => ∃ (kq : Nat) (x78_51 : Bool), v78 = .bool x78_51 ∧ Aside0 (impl_termOk.j3 kq a1 a2 x78_51 a0_0 a0_1 a0_2 l0_3 l0_4 = some r) ∧ Aside0 (kq ≤ kj6) ∧ Aside0 (Kd.V (Kd.int .i64) 3 wc w.heap.size (fun k_ => ((P0_3_ k_ ∨ P0_4_ k_) ∨ w.heap.size ≤ k_) ∧ k_ ≠ gb426 ∧ k_ ≠ gb427) (.slice A0_3 l0_3.length c0_3) l0_3) ∧ Aside0 (Kd.V k78 78 wc w.heap.size (fun k_ => ((P0_3_ k_ ∨ P0_4_ k_) ∨ w.heap.size ≤ k_) ∧ k_ ≠ gb426 ∧ k_ ≠ gb427) (.slice A0_4 l0_4.length c0_4) l0_4) ∧ Aside0 (Kd.V (Kd.int .i64) 3 wc w.heap.size (fun k_ => ((P0_3_ k_ ∨ P0_4_ k_) ∨ w.heap.size ≤ k_) ∧ k_ ≠ gb426 ∧ k_ ≠ gb427) u428003 x428003_6) ∧ Aside0 (Kd.V k78 78 wc w.heap.size (fun k_ => ((P0_3_ k_ ∨ P0_4_ k_) ∨ w.heap.size ≤ k_) ∧ k_ ≠ gb426 ∧ k_ ≠ gb427) (.slice A0_4 l0_4.length c0_4) l0_4) ∧ Aside0 (wc.heap[gb426]? = some (.cells #[.int .i64 a0_0, .int .i64 a0_1, .string a0_2, (.slice A0_3 l0_3.length c0_3), (.slice A0_4 l0_4.length c0_4)] 78 (0, 0))) ∧ Aside0 (wc.heap[gb427]? = some (.cells #[.int .i64 a0_0, .int .i64 x428001_6, .string x428002_6, u428003, (.slice A0_4 l0_4.length c0_4)] 78 (0, 0))) ∧ Aside0 (Below w.heap.size w wc))
    case first =>
     have H := HC52.out
     clear HC52
     by_cases c53 : x428001_6 = 0
     ·rw [if_pos c53] at H
      have c53b0 : (x428001_6 == 0) = true := beq_iff_eq.mpr c53
      have c53b1 : (x428001_6 != 0) = false := bne_eq_false_iff_eq.mpr c53
      clear c53
      (first | rw [c53b0] | (simp only [i64_w, i32_w]; rw [c53b0]) | skip)
      by_cases c54 : x428002_6.toList = ([] : List UInt8)
      ·rw [if_pos c54] at H
       have c54b0 : (x428002_6.toList == ([] : List UInt8)) = true := beq_iff_eq.mpr c54
       have c54b1 : (x428002_6.toList != ([] : List UInt8)) = false := bne_eq_false_iff_eq.mpr c54
       clear c54
       by_cases c55 : (x428003_6.length : Int) = 0
       ·rw [if_pos c55] at H
        have c55b0 : ((x428003_6.length : Int) == 0) = true := beq_iff_eq.mpr c55
        have c55b1 : ((x428003_6.length : Int) != 0) = false := bne_eq_false_iff_eq.mpr c55
        clear c55
        have H' := Aside0.mk H
        clear H
        have hnb56 := NB427_426.out
        have hnc56 := NB426_427.out
        have hcz57_0 := zh BK427
        have hcz57_1 := zh1 BK427
        have hcz57_2 := zh2 BK427
        have hcz57_3 : wc.cell? ⟨gb427, 3, none⟩ = some (u428003) := (blk_cell BK427.out 3).trans rfl
        have hcz57_4 : wc.cell? ⟨gb427, 4, none⟩ = some (.slice A0_4 l0_4.length c0_4) := (blk_cell BK427.out 4).trans rfl
        have hfz57_0 := zfr BK427 0
        have hfz57_1 := zfr BK427 1
        have hfz57_2 := zfr BK427 2
        have hfz57_3 := zfr BK427 3
        have hfz57_4 := zfr BK427 4
        obtain ⟨Ao58, co58, eo58⟩ := Kd.V_slice HO_428003.out
        subst eo58
        have hcz59_0 := zh BK426
        have hcz59_1 := zh1 BK426
        have hcz59_2 := zh2 BK426
        have hcz59_3 : wc.cell? ⟨gb426, 3, none⟩ = some (.slice A0_3 l0_3.length c0_3) := (blk_cell BK426.out 3).trans rfl
        have hcz59_4 : wc.cell? ⟨gb426, 4, none⟩ = some (.slice A0_4 l0_4.length c0_4) := (blk_cell BK426.out 4).trans rfl
        have hfz59_0 := zfr BK426 0
        have hfz59_1 := zfr BK426 1
        have hfz59_2 := zfr BK426 2
        have hfz59_3 := zfr BK426 3
        have hfz59_4 := zfr BK426 4
        go_wp2
        go_meet
        case rel => exact ⟨_, (((l0_4.length : Int) != x8_6)), y7, H', ⟨(y34 HJ6.out)⟩, ⟨(y13 HO_427003.out)⟩, ⟨(y13 HO_427004.out)⟩, ⟨(y13 HO_428003.out)⟩, ⟨(y13 HO_428004.out)⟩, ⟨(y8 BK426.out)⟩, ⟨(y8 BK427.out)⟩, ⟨(y5 HB.out GE426.out GE427.out)⟩⟩
       ·rw [if_neg c55] at H
        have c55b0 : ((x428003_6.length : Int) == 0) = false := beq_eq_false_iff_ne.mpr c55
        have c55b1 : ((x428003_6.length : Int) != 0) = true := bne_iff_ne.mpr c55
        have c55b2 : ¬ (x428003_6 = []) := fun h_ => c55 (by rw [h_]; rfl)
        have H' := Aside0.mk H
        clear H
        have hnb60 := NB427_426.out
        have hnc60 := NB426_427.out
        have hcz61_0 := zh BK427
        have hcz61_1 := zh1 BK427
        have hcz61_2 := zh2 BK427
        have hcz61_3 : wc.cell? ⟨gb427, 3, none⟩ = some (u428003) := (blk_cell BK427.out 3).trans rfl
        have hcz61_4 : wc.cell? ⟨gb427, 4, none⟩ = some (.slice A0_4 l0_4.length c0_4) := (blk_cell BK427.out 4).trans rfl
        have hfz61_0 := zfr BK427 0
        have hfz61_1 := zfr BK427 1
        have hfz61_2 := zfr BK427 2
        have hfz61_3 := zfr BK427 3
        have hfz61_4 := zfr BK427 4
        obtain ⟨Ao62, co62, eo62⟩ := Kd.V_slice HO_428003.out
        subst eo62
        go_wp2
        go_meet
        case rel => exact ⟨_, (true), y7, H', ⟨(y34 HJ6.out)⟩, ⟨(y13 HO_427003.out)⟩, ⟨(y13 HO_427004.out)⟩, ⟨(y13 HO_428003.out)⟩, ⟨(y13 HO_428004.out)⟩, ⟨(y8 BK426.out)⟩, ⟨(y8 BK427.out)⟩, ⟨(y5 HB.out GE426.out GE427.out)⟩⟩
      ·rw [if_neg c54] at H
       have c54b0 : (x428002_6.toList == ([] : List UInt8)) = false := beq_eq_false_iff_ne.mpr c54
       have c54b1 : (x428002_6.toList != ([] : List UInt8)) = true := bne_iff_ne.mpr c54
       have H' := Aside0.mk H
       clear H
       have hnb63 := NB427_426.out
       have hnc63 := NB426_427.out
       have hcz64_0 := zh BK427
       have hcz64_1 := zh1 BK427
       have hcz64_2 := zh2 BK427
       have hcz64_3 : wc.cell? ⟨gb427, 3, none⟩ = some (u428003) := (blk_cell BK427.out 3).trans rfl
       have hcz64_4 : wc.cell? ⟨gb427, 4, none⟩ = some (.slice A0_4 l0_4.length c0_4) := (blk_cell BK427.out 4).trans rfl
       have hfz64_0 := zfr BK427 0
       have hfz64_1 := zfr BK427 1
       have hfz64_2 := zfr BK427 2
       have hfz64_3 := zfr BK427 3
       have hfz64_4 := zfr BK427 4
       go_wp2
       go_meet
       case rel => exact ⟨_, (true), y7, H', ⟨(y34 HJ6.out)⟩, ⟨(y13 HO_427003.out)⟩, ⟨(y13 HO_427004.out)⟩, ⟨(y13 HO_428003.out)⟩, ⟨(y13 HO_428004.out)⟩, ⟨(y8 BK426.out)⟩, ⟨(y8 BK427.out)⟩, ⟨(y5 HB.out GE426.out GE427.out)⟩⟩
     ·rw [if_neg c53] at H
      have c53b0 : (x428001_6 == 0) = false := beq_eq_false_iff_ne.mpr c53
      have c53b1 : (x428001_6 != 0) = true := bne_iff_ne.mpr c53
      (first | rw [c53b0] | (simp only [i64_w, i32_w]; rw [c53b0]) | skip)
      have H' := Aside0.mk H
      clear H
      have hnb65 := NB427_426.out
      have hnc65 := NB426_427.out
      have hcz66_0 := zh BK427
      have hcz66_1 := zh1 BK427
      have hcz66_2 := zh2 BK427
      have hcz66_3 : wc.cell? ⟨gb427, 3, none⟩ = some (u428003) := (blk_cell BK427.out 3).trans rfl
      have hcz66_4 : wc.cell? ⟨gb427, 4, none⟩ = some (.slice A0_4 l0_4.length c0_4) := (blk_cell BK427.out 4).trans rfl
      have hfz66_0 := zfr BK427 0
      have hfz66_1 := zfr BK427 1
      have hfz66_2 := zfr BK427 2
      have hfz66_3 := zfr BK427 3
      have hfz66_4 := zfr BK427 4
      go_wp2
      go_meet
      case rel => exact ⟨_, (true), y7, H', ⟨(y34 HJ6.out)⟩, ⟨(y13 HO_427003.out)⟩, ⟨(y13 HO_427004.out)⟩, ⟨(y13 HO_428003.out)⟩, ⟨(y13 HO_428004.out)⟩, ⟨(y8 BK426.out)⟩, ⟨(y8 BK427.out)⟩, ⟨(y5 HB.out GE426.out GE427.out)⟩⟩
    case rest =>
     clear HC52
     try clear c1
     try clear c2
     try clear p2
     try clear c3
     try clear c4
     try clear c5
     try clear c6
     try clear c6b0
     try clear p6
     try clear c10
     try clear c13
     try clear c13b0
     try clear c13b1
     try clear c14
     try clear c14b0
     try clear c15
     try clear c17
     try clear c17b0
     try clear c18
     try clear c20
     try clear c22
     try clear c23
     try clear c23b0
     try clear c23b1
     try clear c25
     try clear c28
     try clear c31
     try clear c32
     try clear c34
     try clear c37
     try clear c37b0
     try clear c37b1
     try clear c38
     try clear c38b0
     try clear c38b1
     try clear c39
     try clear c39b0
     try clear c39b1
     try clear c40
     try clear c42
     try clear c42b0
     try clear c42b1
     try clear c43
     try clear c46
     try clear c48
     try clear c49
     try clear c53
     try clear c53b0
     try clear c53b1
     try clear c54
     try clear c54b0
     try clear c54b1
     try clear c55
     try clear c55b0
     try clear c55b1
     try clear c55b2
     try clear c56
     try clear c60
     try clear c63
     try clear c64
     try clear p64
     try clear c65
     try clear hcz11_0
     try clear hcz11_1
     try clear hcz11_2
     try clear hcz11_3
     try clear hcz11_4
     try clear hcz12_0
     try clear hcz12_1
     try clear hcz12_2
     try clear hcz12_3
     try clear hcz12_4
     try clear hcz16_0
     try clear hcz16_1
     try clear hcz16_2
     try clear hcz16_3
     try clear hcz16_4
     try clear hcz19_0
     try clear hcz19_1
     try clear hcz19_2
     try clear hcz19_3
     try clear hcz19_4
     try clear hcz21_0
     try clear hcz21_1
     try clear hcz21_2
     try clear hcz21_3
     try clear hcz21_4
     try clear hcz22_0
     try clear hcz22_1
     try clear hcz22_2
     try clear hcz22_3
     try clear hcz22_4
     try clear hcz29_0
     try clear hcz29_1
     try clear hcz29_2
     try clear hcz29_3
     try clear hcz29_4
     try clear hcz33_0
     try clear hcz33_1
     try clear hcz33_2
     try clear hcz33_3
     try clear hcz33_4
     try clear hcz35_0
     try clear hcz35_1
     try clear hcz35_2
     try clear hcz35_3
     try clear hcz35_4
     try clear hcz47_0
     try clear hcz47_1
     try clear hcz47_2
     try clear hcz47_3
     try clear hcz47_4
     try clear hcz50_0
     try clear hcz50_1
     try clear hcz50_2
     try clear hcz50_3
     try clear hcz50_4
     try clear hcz51_0
     try clear hcz51_1
     try clear hcz51_2
     try clear hcz51_3
     try clear hcz51_4
     try clear hcz57_0
     try clear hcz57_1
     try clear hcz57_2
     try clear hcz57_3
     try clear hcz57_4
     try clear hcz59_0
     try clear hcz59_1
     try clear hcz59_2
     try clear hcz59_3
     try clear hcz59_4
     try clear hcz61_0
     try clear hcz61_1
     try clear hcz61_2
     try clear hcz61_3
     try clear hcz61_4
     try clear hcz64_0
     try clear hcz64_1
     try clear hcz64_2
     try clear hcz64_3
     try clear hcz64_4
     try clear hcz66_0
     try clear hcz66_1
     try clear hcz66_2
     try clear hcz66_3
     try clear hcz66_4
     try clear hcz8_0
     try clear hcz8_1
     try clear hcz8_2
     try clear hcz8_3
     try clear hcz8_4
     try clear hfz11_0
     try clear hfz11_1
     try clear hfz11_2
     try clear hfz11_3
     try clear hfz11_4
     try clear hfz12_0
     try clear hfz12_1
     try clear hfz12_2
     try clear hfz12_3
     try clear hfz12_4
     try clear hfz16_0
     try clear hfz16_1
     try clear hfz16_2
     try clear hfz16_3
     try clear hfz16_4
     try clear hfz19_0
     try clear hfz19_1
     try clear hfz19_2
     try clear hfz19_3
     try clear hfz19_4
     try clear hfz21_0
     try clear hfz21_1
     try clear hfz21_2
     try clear hfz21_3
     try clear hfz21_4
     try clear hfz22_0
     try clear hfz22_1
     try clear hfz22_2
     try clear hfz22_3
     try clear hfz22_4
     try clear hfz29_0
     try clear hfz29_1
     try clear hfz29_2
     try clear hfz29_3
     try clear hfz29_4
     try clear hfz33_0
     try clear hfz33_1
     try clear hfz33_2
     try clear hfz33_3
     try clear hfz33_4
     try clear hfz35_0
     try clear hfz35_1
     try clear hfz35_2
     try clear hfz35_3
     try clear hfz35_4
     try clear hfz47_0
     try clear hfz47_1
     try clear hfz47_2
     try clear hfz47_3
     try clear hfz47_4
     try clear hfz50_0
     try clear hfz50_1
     try clear hfz50_2
     try clear hfz50_3
     try clear hfz50_4
     try clear hfz51_0
     try clear hfz51_1
     try clear hfz51_2
     try clear hfz51_3
     try clear hfz51_4
     try clear hfz57_0
     try clear hfz57_1
     try clear hfz57_2
     try clear hfz57_3
     try clear hfz57_4
     try clear hfz59_0
     try clear hfz59_1
     try clear hfz59_2
     try clear hfz59_3
     try clear hfz59_4
     try clear hfz61_0
     try clear hfz61_1
     try clear hfz61_2
     try clear hfz61_3
     try clear hfz61_4
     try clear hfz64_0
     try clear hfz64_1
     try clear hfz64_2
     try clear hfz64_3
     try clear hfz64_4
     try clear hfz66_0
     try clear hfz66_1
     try clear hfz66_2
     try clear hfz66_3
     try clear hfz66_4
     try clear hfz8_0
     try clear hfz8_1
     try clear hfz8_2
     try clear hfz8_3
     try clear hfz8_4
     try clear p2
     try clear p6
     obtain ⟨kq, x78_51, rfl, HA, HJ51, HO_427003, HO_427004, HO_428003, HO_428004, BK426, BK427, HB⟩ := hcut
     cases kq with
     | zero => exact absurd HA.out (by simp [impl_termOk.j3])
     | succ kj51 =>
      have H := HA.out
      clear HA
      simp only [impl_termOk.j3] at H
      by_cases c67 : x78_51 = true
      ·subst c67
       rw [if_pos rfl] at H
       obtain rfl := Option.some.inj H
       go_wp2
       go_ret
       exact ⟨y6, (y5 HB.out GE426.out GE427.out)⟩
      ·replace c67 := Bool.eq_false_iff.mpr c67
       subst c67
       rw [if_neg (show ¬ (false = true) by decide)] at H
       have H' := Aside0.mk H
       clear H
       have hnb68 := NB426_427.out
       have hnc68 := NB427_426.out
       have hcz69_0 := zh BK426
       have hcz69_1 := zh1 BK426
       have hcz69_2 := zh2 BK426
       have hcz69_3 : wc.cell? ⟨gb426, 3, none⟩ = some (.slice A0_3 l0_3.length c0_3) := (blk_cell BK426.out 3).trans rfl
       have hcz69_4 : wc.cell? ⟨gb426, 4, none⟩ = some (.slice A0_4 l0_4.length c0_4) := (blk_cell BK426.out 4).trans rfl
       have hfz69_0 := zfr BK426 0
       have hfz69_1 := zfr BK426 1
       have hfz69_2 := zfr BK426 2
       have hfz69_3 := zfr BK426 3
       have hfz69_4 := zfr BK426 4
       go_wp2
       go_loopg [82] kj51 (fun kq v82 w' => ∃ (x82_3 : Int), v82 = .int .i64 x82_3 ∧ Aside0 (impl_termOk.l0 kq a1 a2 l0_4 (l0_4.length : Int) x82_3 = some r) ∧ Aside0 (kq ≤ kj51) ∧ Aside0 (Kd.V k78 78 w' w.heap.size (fun k_ => ((P0_3_ k_ ∨ P0_4_ k_) ∨ w.heap.size ≤ k_) ∧ k_ ≠ gb426 ∧ k_ ≠ gb427) (.slice A0_4 l0_4.length c0_4) l0_4) ∧ Aside0 (Kd.V (Kd.int .i64) 3 w' w.heap.size (fun k_ => ((P0_3_ k_ ∨ P0_4_ k_) ∨ w.heap.size ≤ k_) ∧ k_ ≠ gb426 ∧ k_ ≠ gb427) (.slice A0_3 l0_3.length c0_3) l0_3) ∧ Aside0 (Kd.V k78 78 w' w.heap.size (fun k_ => ((P0_3_ k_ ∨ P0_4_ k_) ∨ w.heap.size ≤ k_) ∧ k_ ≠ gb426 ∧ k_ ≠ gb427) (.slice A0_4 l0_4.length c0_4) l0_4) ∧ Aside0 (Kd.V (Kd.int .i64) 3 w' w.heap.size (fun k_ => ((P0_3_ k_ ∨ P0_4_ k_) ∨ w.heap.size ≤ k_) ∧ k_ ≠ gb426 ∧ k_ ≠ gb427) u428003 x428003_6) ∧ Aside0 (Kd.V k78 78 w' w.heap.size (fun k_ => ((P0_3_ k_ ∨ P0_4_ k_) ∨ w.heap.size ≤ k_) ∧ k_ ≠ gb426 ∧ k_ ≠ gb427) (.slice A0_4 l0_4.length c0_4) l0_4) ∧ Aside0 (w'.heap[gb426]? = some (.cells #[.int .i64 a0_0, .int .i64 a0_1, .string a0_2, (.slice A0_3 l0_3.length c0_3), (.slice A0_4 l0_4.length c0_4)] 78 (0, 0))) ∧ Aside0 (w'.heap[gb427]? = some (.cells #[.int .i64 a0_0, .int .i64 x428001_6, .string x428002_6, u428003, (.slice A0_4 l0_4.length c0_4)] 78 (0, 0))) ∧ Aside0 (Below w.heap.size w w'))
       case atStart => exact ⟨(0), y7, H', ⟨Nat.le_refl _⟩, ⟨(y13 HO_427004.out)⟩, ⟨(y13 HO_427003.out)⟩, ⟨(y13 HO_427004.out)⟩, ⟨(y13 HO_428003.out)⟩, ⟨(y13 HO_428004.out)⟩, ⟨(y8 BK426.out)⟩, ⟨(y8 BK427.out)⟩, ⟨(y5 HB.out GE426.out GE427.out)⟩⟩
       case round =>
        clear H'
        try clear c1
        try clear c2
        try clear p2
        try clear c3
        try clear c4
        try clear c5
        try clear c6
        try clear c6b0
        try clear p6
        try clear c10
        try clear c13
        try clear c13b0
        try clear c13b1
        try clear c14
        try clear c14b0
        try clear c15
        try clear c17
        try clear c17b0
        try clear c18
        try clear c20
        try clear c22
        try clear c23
        try clear c23b0
        try clear c23b1
        try clear c25
        try clear c28
        try clear c31
        try clear c32
        try clear c34
        try clear c37
        try clear c37b0
        try clear c37b1
        try clear c38
        try clear c38b0
        try clear c38b1
        try clear c39
        try clear c39b0
        try clear c39b1
        try clear c40
        try clear c42
        try clear c42b0
        try clear c42b1
        try clear c43
        try clear c46
        try clear c48
        try clear c49
        try clear c53
        try clear c53b0
        try clear c53b1
        try clear c54
        try clear c54b0
        try clear c54b1
        try clear c55
        try clear c55b0
        try clear c55b1
        try clear c55b2
        try clear c56
        try clear c60
        try clear c63
        try clear c64
        try clear p64
        try clear c65
        try clear c67
        try clear c68
        try clear hcz11_0
        try clear hcz11_1
        try clear hcz11_2
        try clear hcz11_3
        try clear hcz11_4
        try clear hcz12_0
        try clear hcz12_1
        try clear hcz12_2
        try clear hcz12_3
        try clear hcz12_4
        try clear hcz16_0
        try clear hcz16_1
        try clear hcz16_2
        try clear hcz16_3
        try clear hcz16_4
        try clear hcz19_0
        try clear hcz19_1
        try clear hcz19_2
        try clear hcz19_3
        try clear hcz19_4
        try clear hcz21_0
        try clear hcz21_1
        try clear hcz21_2
        try clear hcz21_3
        try clear hcz21_4
        try clear hcz22_0
        try clear hcz22_1
        try clear hcz22_2
        try clear hcz22_3
        try clear hcz22_4
        try clear hcz29_0
        try clear hcz29_1
        try clear hcz29_2
        try clear hcz29_3
        try clear hcz29_4
        try clear hcz33_0
        try clear hcz33_1
        try clear hcz33_2
        try clear hcz33_3
        try clear hcz33_4
        try clear hcz35_0
        try clear hcz35_1
        try clear hcz35_2
        try clear hcz35_3
        try clear hcz35_4
        try clear hcz47_0
        try clear hcz47_1
        try clear hcz47_2
        try clear hcz47_3
        try clear hcz47_4
        try clear hcz50_0
        try clear hcz50_1
        try clear hcz50_2
        try clear hcz50_3
        try clear hcz50_4
        try clear hcz51_0
        try clear hcz51_1
        try clear hcz51_2
        try clear hcz51_3
        try clear hcz51_4
        try clear hcz57_0
        try clear hcz57_1
        try clear hcz57_2
        try clear hcz57_3
        try clear hcz57_4
        try clear hcz59_0
        try clear hcz59_1
        try clear hcz59_2
        try clear hcz59_3
        try clear hcz59_4
        try clear hcz61_0
        try clear hcz61_1
        try clear hcz61_2
        try clear hcz61_3
        try clear hcz61_4
        try clear hcz64_0
        try clear hcz64_1
        try clear hcz64_2
        try clear hcz64_3
        try clear hcz64_4
        try clear hcz66_0
        try clear hcz66_1
        try clear hcz66_2
        try clear hcz66_3
        try clear hcz66_4
        try clear hcz69_0
        try clear hcz69_1
        try clear hcz69_2
        try clear hcz69_3
        try clear hcz69_4
        try clear hcz8_0
        try clear hcz8_1
        try clear hcz8_2
        try clear hcz8_3
        try clear hcz8_4
        try clear hfz11_0
        try clear hfz11_1
        try clear hfz11_2
        try clear hfz11_3
        try clear hfz11_4
        try clear hfz12_0
        try clear hfz12_1
        try clear hfz12_2
        try clear hfz12_3
        try clear hfz12_4
        try clear hfz16_0
        try clear hfz16_1
        try clear hfz16_2
        try clear hfz16_3
        try clear hfz16_4
        try clear hfz19_0
        try clear hfz19_1
        try clear hfz19_2
        try clear hfz19_3
        try clear hfz19_4
        try clear hfz21_0
        try clear hfz21_1
        try clear hfz21_2
        try clear hfz21_3
        try clear hfz21_4
        try clear hfz22_0
        try clear hfz22_1
        try clear hfz22_2
        try clear hfz22_3
        try clear hfz22_4
        try clear hfz29_0
        try clear hfz29_1
        try clear hfz29_2
        try clear hfz29_3
        try clear hfz29_4
        try clear hfz33_0
        try clear hfz33_1
        try clear hfz33_2
        try clear hfz33_3
        try clear hfz33_4
        try clear hfz35_0
        try clear hfz35_1
        try clear hfz35_2
        try clear hfz35_3
        try clear hfz35_4
        try clear hfz47_0
        try clear hfz47_1
        try clear hfz47_2
        try clear hfz47_3
        try clear hfz47_4
        try clear hfz50_0
        try clear hfz50_1
        try clear hfz50_2
        try clear hfz50_3
        try clear hfz50_4
        try clear hfz51_0
        try clear hfz51_1
        try clear hfz51_2
        try clear hfz51_3
        try clear hfz51_4
        try clear hfz57_0
        try clear hfz57_1
        try clear hfz57_2
        try clear hfz57_3
        try clear hfz57_4
        try clear hfz59_0
        try clear hfz59_1
        try clear hfz59_2
        try clear hfz59_3
        try clear hfz59_4
        try clear hfz61_0
        try clear hfz61_1
        try clear hfz61_2
        try clear hfz61_3
        try clear hfz61_4
        try clear hfz64_0
        try clear hfz64_1
        try clear hfz64_2
        try clear hfz64_3
        try clear hfz64_4
        try clear hfz66_0
        try clear hfz66_1
        try clear hfz66_2
        try clear hfz66_3
        try clear hfz66_4
        try clear hfz69_0
        try clear hfz69_1
        try clear hfz69_2
        try clear hfz69_3
        try clear hfz69_4
        try clear hfz8_0
        try clear hfz8_1
        try clear hfz8_2
        try clear hfz8_3
        try clear hfz8_4
        try clear p2
        try clear p6
        try clear p64
        (try clear HO_427003); (try clear HO_427004); (try clear HO_428003); (try clear HO_428004); (try clear BK426); (try clear BK427)
        obtain ⟨x82_3, rfl, HA, HK3, HO_80, HO_427003, HO_427004, HO_428003, HO_428004, BK426, BK427, HB⟩ := hrel
        cases gk with
        | zero => exact absurd HA.out (by simp [impl_termOk.l0])
        | succ k3 =>
         have H := HA.out
         clear HA
         simp only [impl_termOk.l0] at H
         by_cases c70 : x82_3 < (l0_4.length : Int)
         ·rw [if_pos c70] at H
          have c70b0 : decide (x82_3 < (l0_4.length : Int)) = true := decide_eq_true c70
          clear c70
          by_cases c71 : 0 ≤ x82_3
          ·rw [if_pos c71] at H
           have c71b0 : decide (0 ≤ x82_3) = true := decide_eq_true c71
           clear c71
           by_cases c72 : x82_3 < (l0_4.length : Int)
           ·rw [if_pos c72] at H
            have c72b0 : decide (x82_3 < (l0_4.length : Int)) = true := decide_eq_true c72
            clear c72
            obtain ⟨t433, A730, H⟩ := ob H
            have A73 := Aside0.mk A730
            clear A730
            have HZ74 := Aside0.mk H
            clear H
            have p431 : 0 ≤ (x82_3 : Int) := of_decide_eq_true y4
            have q431 : x82_3 < (l0_4.length : Int) := of_decide_eq_true y4
            obtain ⟨ad431, A431_3, c431_3, A431_4, c431_4, e431, hx431_0, hx431_1, hx431_2, hx431_3, hx431_4, hl431_3, hi431_3, hl431_4, hi431_4⟩ := at_T78 (Kd.V_reads' HO_80.out).2.2 x82_3 p431 q431
            cases e431
            obtain ⟨ce431, hce431, hMe431, hcc431⟩ := Kd.V_get HO_80.out z78 x82_3 p431 (by first | exact q431 | exact of_decide_eq_true y4 | (have e_ := (Kd.V_reads' HO_80.out).1; omega))
            obtain ⟨ua431_3, uc431_3, ua431_4, uc431_4, rfl, ul431_3, ge431_3, ul431_4, ge431_4⟩ := k78_openF hMe431
            have hv431_3 := hcc431 3 _ rfl
            rw [add_field _ _ 3 (by omega)] at hv431_3
            replace hv431_3 := Option.some.inj (hv431_3.symm.trans hx431_3)
            injection hv431_3 with hva_ hvn_ hvc_
            rw [hva_] at ge431_3
            rw [hvc_] at ul431_3
            have HL431_3 := Aside0.mk (show Kd.V (Kd.int .i64) 3 _ w.heap.size _ _ ((rd_T78 l0_4 x82_3).f3) from Kd.V_mk ul431_3 ge431_3)
            clear hva_ hvn_ hvc_ ge431_3 ul431_3
            have hv431_4 := hcc431 4 _ rfl
            rw [add_field _ _ 4 (by omega)] at hv431_4
            replace hv431_4 := Option.some.inj (hv431_4.symm.trans hx431_4)
            injection hv431_4 with hva_ hvn_ hvc_
            rw [hva_] at ge431_4
            rw [hvc_] at ul431_4
            have HL431_4 := Aside0.mk (show Kd.V k78 78 _ w.heap.size _ _ ((rd_T78 l0_4 x82_3).f4) from Kd.V_mk ul431_4 ge431_4)
            clear hva_ hvn_ hvc_ ge431_4 ul431_4
            clear hcc431 hce431
            have HR431_3 := Aside0.mk hi431_3
            have HC431_3 := Aside0.mk hl431_3
            clear hi431_3 hl431_3
            have HR431_4 := Aside0.mk hi431_4
            have HC431_4 := Aside0.mk hl431_4
            clear hi431_4 hl431_4
            replace p431 := eq_true p431
            replace q431 := eq_true q431
            go_upto_if 91 with (first | ((with_reducible refine gate_dst (N := 10) rfl ?_); (try (refine gate_guard (by rfl) ?_; dsimp only)); refine zbx 10 #[.int .i64 0, .int .i64 0, .string (⟨#[]⟩ : ByteArray), .slice none 0 0, .slice none 0 0] 78 ?_; intro gb432 hg w75 hbox hb; replace HO_80 := Aside0.mk (Kd.V_below (Kd.V_elderB (y13 HO_80.out) gb432 (Nat.le_of_eq hg.symm)) hb); replace HO_427003 := Aside0.mk (Kd.V_below (Kd.V_elderB (y13 HO_427003.out) gb432 (Nat.le_of_eq hg.symm)) hb); replace HO_427004 := Aside0.mk (Kd.V_below (Kd.V_elderB (y13 HO_427004.out) gb432 (Nat.le_of_eq hg.symm)) hb); replace HO_428003 := Aside0.mk (Kd.V_below (Kd.V_elderB (y13 HO_428003.out) gb432 (Nat.le_of_eq hg.symm)) hb); replace HO_428004 := Aside0.mk (Kd.V_below (Kd.V_elderB (y13 HO_428004.out) gb432 (Nat.le_of_eq hg.symm)) hb); replace HL431_3 := Aside0.mk (Kd.V_below (Kd.V_elderB (y13 HL431_3.out) gb432 (Nat.le_of_eq hg.symm)) hb); replace HL431_4 := Aside0.mk (Kd.V_below (Kd.V_elderB (y13 HL431_4.out) gb432 (Nat.le_of_eq hg.symm)) hb); (try replace HR431_3 := Aside0.mk (Kd.C_below (y32 HR431_3.out) hb)); (try replace HR431_4 := Aside0.mk (Kd.C_below (y32 HR431_4.out) hb)); have BK432 := Aside0.mk hbox; have GW432 := Aside0.mk ((y21 hg HB.out GE426.out GE427.out : w.heap.size ≤ gb432)); have GE432 := Aside0.mk ((y21 hg HB.out GE426.out GE427.out : w.heap.size ≤ gb432)); replace HB := Aside0.mk (below_step (y5 HB.out GE426.out GE427.out) hb); have NB426_432 := zltn hg BK426; have NB432_426 := zgtn hg BK426; replace BK426 := zbb BK426 hb; have NB427_432 := zltn hg BK427; have NB432_427 := zgtn hg BK427; replace BK427 := zbb BK427 hb; clear hb hbox hg; have hnb76 := NB432_426.out; have hnc76 := NB426_432.out; have hnb77 := NB432_427.out; have hnc77 := NB427_432.out; have hcz78_0 := zh BK432; have hcz78_1 := zh1 BK432; have hcz78_2 := zh2 BK432; have hcz78_3 : w75.cell? ⟨gb432, 3, none⟩ = some (.slice none 0 0) := (blk_cell BK432.out 3).trans rfl; have hcz78_4 : w75.cell? ⟨gb432, 4, none⟩ = some (.slice none 0 0) := (blk_cell BK432.out 4).trans rfl; have hfz78_0 := zfr BK432 0; have hfz78_1 := zfr BK432 1; have hfz78_2 := zfr BK432 2; have hfz78_3 := zfr BK432 3; have hfz78_4 := zfr BK432 4) | ((with_reducible refine gate_store (t := 78) (p := 10) rfl ?_); refine store_event (t := 78) (p := 10) (v := ?vo_w79) (w1 := (((((w75.setCell ⟨gb432, 0, none⟩ (.int .i64 ((rd_T78 l0_4 x82_3).f0))).setCell ⟨gb432, 1, none⟩ (.int .i64 ((rd_T78 l0_4 x82_3).f1))).setCell ⟨gb432, 2, none⟩ (.string ((rd_T78 l0_4 x82_3).f2))).setCell ⟨gb432, 3, none⟩ (.slice A431_3 ((rd_T78 l0_4 x82_3).f3).length c431_3)).setCell ⟨gb432, 4, none⟩ (.slice A431_4 ((rd_T78 l0_4 x82_3).f4).length c431_4))) ?hg ?ho ?hn ?hr ?_; (case ho => rfl); (case hg => rfl); (case hn => rfl); (case hr => first | (go_simp; done) | (go_simp; rfl)); intro w79 hw; have n0_ : Aside0 (Kd.V k78 78 w79 w.heap.size (fun k_ => ((P0_3_ k_ ∨ P0_4_ k_) ∨ w.heap.size ≤ k_) ∧ k_ ≠ gb426 ∧ k_ ≠ gb427 ∧ k_ ≠ gb432) (.slice (some ad431) l0_4.length c0_4) l0_4) := ⟨(by rw [hw]; exact (by (with_reducible repeat (first | apply Kd.V_alloc | apply Kd.V_drewN | apply Kd.V_drew)); exact Kd.V_mono (Kd.V_far (p := ⟨gb432, 4, none⟩) (Kd.V_far (p := ⟨gb432, 3, none⟩) (Kd.V_far (p := ⟨gb432, 2, none⟩) (Kd.V_far (p := ⟨gb432, 1, none⟩) (Kd.V_far (p := ⟨gb432, 0, none⟩) (Kd.V_mono HO_80.out (fun k_ hk => (⟨hk, hk.2⟩ : _ ∧ k_ ≠ gb432))) (fun _ hk => hk.2) (.int .i64 ((rd_T78 l0_4 x82_3).f0))) (fun _ hk => hk.2) (.int .i64 ((rd_T78 l0_4 x82_3).f1))) (fun _ hk => hk.2) (.string ((rd_T78 l0_4 x82_3).f2))) (fun _ hk => hk.2) (.slice A431_3 ((rd_T78 l0_4 x82_3).f3).length c431_3)) (fun _ hk => hk.2) (.slice A431_4 ((rd_T78 l0_4 x82_3).f4).length c431_4)) (fun _ hk => ⟨hk.1.1.1, ⟨hk.1.1.2.1, ⟨hk.1.1.2.2, hk.1.2⟩⟩⟩)))⟩; have n1_ : Aside0 (Kd.V (Kd.int .i64) 3 w79 w.heap.size (fun k_ => ((P0_3_ k_ ∨ P0_4_ k_) ∨ w.heap.size ≤ k_) ∧ k_ ≠ gb426 ∧ k_ ≠ gb427 ∧ k_ ≠ gb432) (.slice A0_3 l0_3.length c0_3) l0_3) := ⟨(by rw [hw]; exact (by (with_reducible repeat (first | apply Kd.V_alloc | apply Kd.V_drewN | apply Kd.V_drew)); exact Kd.V_mono (Kd.V_far (p := ⟨gb432, 4, none⟩) (Kd.V_far (p := ⟨gb432, 3, none⟩) (Kd.V_far (p := ⟨gb432, 2, none⟩) (Kd.V_far (p := ⟨gb432, 1, none⟩) (Kd.V_far (p := ⟨gb432, 0, none⟩) (Kd.V_mono HO_427003.out (fun k_ hk => (⟨hk, hk.2⟩ : _ ∧ k_ ≠ gb432))) (fun _ hk => hk.2) (.int .i64 ((rd_T78 l0_4 x82_3).f0))) (fun _ hk => hk.2) (.int .i64 ((rd_T78 l0_4 x82_3).f1))) (fun _ hk => hk.2) (.string ((rd_T78 l0_4 x82_3).f2))) (fun _ hk => hk.2) (.slice A431_3 ((rd_T78 l0_4 x82_3).f3).length c431_3)) (fun _ hk => hk.2) (.slice A431_4 ((rd_T78 l0_4 x82_3).f4).length c431_4)) (fun _ hk => ⟨hk.1.1.1, ⟨hk.1.1.2.1, ⟨hk.1.1.2.2, hk.1.2⟩⟩⟩)))⟩; have n2_ : Aside0 (Kd.V k78 78 w79 w.heap.size (fun k_ => ((P0_3_ k_ ∨ P0_4_ k_) ∨ w.heap.size ≤ k_) ∧ k_ ≠ gb426 ∧ k_ ≠ gb427 ∧ k_ ≠ gb432) (.slice (some ad431) l0_4.length c0_4) l0_4) := ⟨(by rw [hw]; exact (by (with_reducible repeat (first | apply Kd.V_alloc | apply Kd.V_drewN | apply Kd.V_drew)); exact Kd.V_mono (Kd.V_far (p := ⟨gb432, 4, none⟩) (Kd.V_far (p := ⟨gb432, 3, none⟩) (Kd.V_far (p := ⟨gb432, 2, none⟩) (Kd.V_far (p := ⟨gb432, 1, none⟩) (Kd.V_far (p := ⟨gb432, 0, none⟩) (Kd.V_mono HO_427004.out (fun k_ hk => (⟨hk, hk.2⟩ : _ ∧ k_ ≠ gb432))) (fun _ hk => hk.2) (.int .i64 ((rd_T78 l0_4 x82_3).f0))) (fun _ hk => hk.2) (.int .i64 ((rd_T78 l0_4 x82_3).f1))) (fun _ hk => hk.2) (.string ((rd_T78 l0_4 x82_3).f2))) (fun _ hk => hk.2) (.slice A431_3 ((rd_T78 l0_4 x82_3).f3).length c431_3)) (fun _ hk => hk.2) (.slice A431_4 ((rd_T78 l0_4 x82_3).f4).length c431_4)) (fun _ hk => ⟨hk.1.1.1, ⟨hk.1.1.2.1, ⟨hk.1.1.2.2, hk.1.2⟩⟩⟩)))⟩; have n3_ : Aside0 (Kd.V (Kd.int .i64) 3 w79 w.heap.size (fun k_ => ((P0_3_ k_ ∨ P0_4_ k_) ∨ w.heap.size ≤ k_) ∧ k_ ≠ gb426 ∧ k_ ≠ gb427 ∧ k_ ≠ gb432) u428003 x428003_6) := ⟨(by rw [hw]; exact (by (with_reducible repeat (first | apply Kd.V_alloc | apply Kd.V_drewN | apply Kd.V_drew)); exact Kd.V_mono (Kd.V_far (p := ⟨gb432, 4, none⟩) (Kd.V_far (p := ⟨gb432, 3, none⟩) (Kd.V_far (p := ⟨gb432, 2, none⟩) (Kd.V_far (p := ⟨gb432, 1, none⟩) (Kd.V_far (p := ⟨gb432, 0, none⟩) (Kd.V_mono HO_428003.out (fun k_ hk => (⟨hk, hk.2⟩ : _ ∧ k_ ≠ gb432))) (fun _ hk => hk.2) (.int .i64 ((rd_T78 l0_4 x82_3).f0))) (fun _ hk => hk.2) (.int .i64 ((rd_T78 l0_4 x82_3).f1))) (fun _ hk => hk.2) (.string ((rd_T78 l0_4 x82_3).f2))) (fun _ hk => hk.2) (.slice A431_3 ((rd_T78 l0_4 x82_3).f3).length c431_3)) (fun _ hk => hk.2) (.slice A431_4 ((rd_T78 l0_4 x82_3).f4).length c431_4)) (fun _ hk => ⟨hk.1.1.1, ⟨hk.1.1.2.1, ⟨hk.1.1.2.2, hk.1.2⟩⟩⟩)))⟩; have n4_ : Aside0 (Kd.V k78 78 w79 w.heap.size (fun k_ => ((P0_3_ k_ ∨ P0_4_ k_) ∨ w.heap.size ≤ k_) ∧ k_ ≠ gb426 ∧ k_ ≠ gb427 ∧ k_ ≠ gb432) (.slice (some ad431) l0_4.length c0_4) l0_4) := ⟨(by rw [hw]; exact (by (with_reducible repeat (first | apply Kd.V_alloc | apply Kd.V_drewN | apply Kd.V_drew)); exact Kd.V_mono (Kd.V_far (p := ⟨gb432, 4, none⟩) (Kd.V_far (p := ⟨gb432, 3, none⟩) (Kd.V_far (p := ⟨gb432, 2, none⟩) (Kd.V_far (p := ⟨gb432, 1, none⟩) (Kd.V_far (p := ⟨gb432, 0, none⟩) (Kd.V_mono HO_428004.out (fun k_ hk => (⟨hk, hk.2⟩ : _ ∧ k_ ≠ gb432))) (fun _ hk => hk.2) (.int .i64 ((rd_T78 l0_4 x82_3).f0))) (fun _ hk => hk.2) (.int .i64 ((rd_T78 l0_4 x82_3).f1))) (fun _ hk => hk.2) (.string ((rd_T78 l0_4 x82_3).f2))) (fun _ hk => hk.2) (.slice A431_3 ((rd_T78 l0_4 x82_3).f3).length c431_3)) (fun _ hk => hk.2) (.slice A431_4 ((rd_T78 l0_4 x82_3).f4).length c431_4)) (fun _ hk => ⟨hk.1.1.1, ⟨hk.1.1.2.1, ⟨hk.1.1.2.2, hk.1.2⟩⟩⟩)))⟩; have n5_ : Aside0 (Kd.V (Kd.int .i64) 3 w79 w.heap.size (fun k_ => ((P0_3_ k_ ∨ P0_4_ k_) ∨ w.heap.size ≤ k_) ∧ k_ ≠ gb426 ∧ k_ ≠ gb427 ∧ k_ ≠ gb432) (.slice A431_3 ((rd_T78 l0_4 x82_3).f3).length c431_3) ((rd_T78 l0_4 x82_3).f3)) := ⟨(by rw [hw]; exact (by (with_reducible repeat (first | apply Kd.V_alloc | apply Kd.V_drewN | apply Kd.V_drew)); exact Kd.V_mono (Kd.V_far (p := ⟨gb432, 4, none⟩) (Kd.V_far (p := ⟨gb432, 3, none⟩) (Kd.V_far (p := ⟨gb432, 2, none⟩) (Kd.V_far (p := ⟨gb432, 1, none⟩) (Kd.V_far (p := ⟨gb432, 0, none⟩) (Kd.V_mono HL431_3.out (fun k_ hk => (⟨hk, hk.2⟩ : _ ∧ k_ ≠ gb432))) (fun _ hk => hk.2) (.int .i64 ((rd_T78 l0_4 x82_3).f0))) (fun _ hk => hk.2) (.int .i64 ((rd_T78 l0_4 x82_3).f1))) (fun _ hk => hk.2) (.string ((rd_T78 l0_4 x82_3).f2))) (fun _ hk => hk.2) (.slice A431_3 ((rd_T78 l0_4 x82_3).f3).length c431_3)) (fun _ hk => hk.2) (.slice A431_4 ((rd_T78 l0_4 x82_3).f4).length c431_4)) (fun _ hk => ⟨hk.1.1.1, ⟨hk.1.1.2.1, ⟨hk.1.1.2.2, hk.1.2⟩⟩⟩)))⟩; have n6_ : Aside0 (Kd.V k78 78 w79 w.heap.size (fun k_ => ((P0_3_ k_ ∨ P0_4_ k_) ∨ w.heap.size ≤ k_) ∧ k_ ≠ gb426 ∧ k_ ≠ gb427 ∧ k_ ≠ gb432) (.slice A431_4 ((rd_T78 l0_4 x82_3).f4).length c431_4) ((rd_T78 l0_4 x82_3).f4)) := ⟨(by rw [hw]; exact (by (with_reducible repeat (first | apply Kd.V_alloc | apply Kd.V_drewN | apply Kd.V_drew)); exact Kd.V_mono (Kd.V_far (p := ⟨gb432, 4, none⟩) (Kd.V_far (p := ⟨gb432, 3, none⟩) (Kd.V_far (p := ⟨gb432, 2, none⟩) (Kd.V_far (p := ⟨gb432, 1, none⟩) (Kd.V_far (p := ⟨gb432, 0, none⟩) (Kd.V_mono HL431_4.out (fun k_ hk => (⟨hk, hk.2⟩ : _ ∧ k_ ≠ gb432))) (fun _ hk => hk.2) (.int .i64 ((rd_T78 l0_4 x82_3).f0))) (fun _ hk => hk.2) (.int .i64 ((rd_T78 l0_4 x82_3).f1))) (fun _ hk => hk.2) (.string ((rd_T78 l0_4 x82_3).f2))) (fun _ hk => hk.2) (.slice A431_3 ((rd_T78 l0_4 x82_3).f3).length c431_3)) (fun _ hk => hk.2) (.slice A431_4 ((rd_T78 l0_4 x82_3).f4).length c431_4)) (fun _ hk => ⟨hk.1.1.1, ⟨hk.1.1.2.1, ⟨hk.1.1.2.2, hk.1.2⟩⟩⟩)))⟩; have n7_ : Aside0 (w79.heap[gb426]? = some (.cells #[.int .i64 a0_0, .int .i64 a0_1, .string a0_2, .slice A0_3 l0_3.length c0_3, .slice (some ad431) l0_4.length c0_4] 78 (0, 0))) := ⟨(by rw [hw]; exact (y14 NB426_432.out BK426.out))⟩; have n8_ : Aside0 (w79.heap[gb427]? = some (.cells #[.int .i64 a0_0, .int .i64 x428001_6, .string x428002_6, u428003, .slice (some ad431) l0_4.length c0_4] 78 (0, 0))) := ⟨(by rw [hw]; exact (y14 NB427_432.out BK427.out))⟩; have n9_ : Aside0 (w79.heap[gb432]? = some (.cells #[.int .i64 ((rd_T78 l0_4 x82_3).f0), .int .i64 ((rd_T78 l0_4 x82_3).f1), .string ((rd_T78 l0_4 x82_3).f2), .slice A431_3 ((rd_T78 l0_4 x82_3).f3).length c431_3, .slice A431_4 ((rd_T78 l0_4 x82_3).f4).length c431_4] 78 (0, 0))) := ⟨(by rw [hw]; exact (by (with_reducible repeat (first | refine blk_drewN ?_ _ | refine blk_drew ?_ | refine blk_alloc ?_ _)); refine blk_put (cs := #[.int .i64 ((rd_T78 l0_4 x82_3).f0), .int .i64 ((rd_T78 l0_4 x82_3).f1), .string ((rd_T78 l0_4 x82_3).f2), .slice A431_3 ((rd_T78 l0_4 x82_3).f3).length c431_3, .slice none 0 0]) ?_ 4 _ rfl; (with_reducible repeat (first | refine blk_drewN ?_ _ | refine blk_drew ?_ | refine blk_alloc ?_ _)); refine blk_put (cs := #[.int .i64 ((rd_T78 l0_4 x82_3).f0), .int .i64 ((rd_T78 l0_4 x82_3).f1), .string ((rd_T78 l0_4 x82_3).f2), .slice none 0 0, .slice none 0 0]) ?_ 3 _ rfl; (with_reducible repeat (first | refine blk_drewN ?_ _ | refine blk_drew ?_ | refine blk_alloc ?_ _)); refine blk_put (cs := #[.int .i64 ((rd_T78 l0_4 x82_3).f0), .int .i64 ((rd_T78 l0_4 x82_3).f1), .string (⟨#[]⟩ : ByteArray), .slice none 0 0, .slice none 0 0]) ?_ 2 _ rfl; (with_reducible repeat (first | refine blk_drewN ?_ _ | refine blk_drew ?_ | refine blk_alloc ?_ _)); refine blk_put (cs := #[.int .i64 ((rd_T78 l0_4 x82_3).f0), .int .i64 0, .string (⟨#[]⟩ : ByteArray), .slice none 0 0, .slice none 0 0]) ?_ 1 _ rfl; (with_reducible repeat (first | refine blk_drewN ?_ _ | refine blk_drew ?_ | refine blk_alloc ?_ _)); apply blk_put (i := 0); (case h => exact y8 BK432.out); (case e => rfl)))⟩; have n10_ : Aside0 (Below w.heap.size w w79) := ⟨(by rw [hw]; exact (y10 HB.out GE426.out GE427.out GE432.out))⟩; clear hw; clear HO_80; clear HO_427003; clear HO_427004; clear HO_428003; clear HO_428004; clear HL431_3; clear HL431_4; clear BK426; clear BK427; clear BK432; clear HB; have HO_80 := n0_; have HO_427003 := n1_; have HO_427004 := n2_; have HO_428003 := n3_; have HO_428004 := n4_; have HL431_3 := n5_; have HL431_4 := n6_; have BK426 := n7_; have BK427 := n8_; have BK432 := n9_; have HB := n10_; clear n0_ n1_ n2_ n3_ n4_ n5_ n6_ n7_ n8_ n9_ n10_; have hcz80_0 : w79.cell? ⟨gb432, 0, none⟩ = some (.int .i64 ((rd_T78 l0_4 x82_3).f0)) := (blk_cell BK432.out 0).trans rfl; have hcz80_1 : w79.cell? ⟨gb432, 1, none⟩ = some (.int .i64 ((rd_T78 l0_4 x82_3).f1)) := (blk_cell BK432.out 1).trans rfl; have hcz80_2 : w79.cell? ⟨gb432, 2, none⟩ = some (.string ((rd_T78 l0_4 x82_3).f2)) := (blk_cell BK432.out 2).trans rfl; have hcz80_3 : w79.cell? ⟨gb432, 3, none⟩ = some (.slice A431_3 ((rd_T78 l0_4 x82_3).f3).length c431_3) := (blk_cell BK432.out 3).trans rfl; have hcz80_4 : w79.cell? ⟨gb432, 4, none⟩ = some (.slice A431_4 ((rd_T78 l0_4 x82_3).f4).length c431_4) := (blk_cell BK432.out 4).trans rfl; have hfz80_0 := zfr BK432 0; have hfz80_1 := zfr BK432 1; have hfz80_2 := zfr BK432 2; have hfz80_3 := zfr BK432 3; have hfz80_4 := zfr BK432 4) | ((with_reducible refine gate_callee (f := 55) rfl ?_); refine goesL_ (some 90) rfl rfl Try.func55 (by kernel_rfl) rfl #[.agg #[.int .i64 ((rd_T78 l0_4 x82_3).f0), .int .i64 ((rd_T78 l0_4 x82_3).f1), .string ((rd_T78 l0_4 x82_3).f2), .slice A431_3 ((rd_T78 l0_4 x82_3).f3).length c431_3, .slice A431_4 ((rd_T78 l0_4 x82_3).f4).length c431_4], .int .i64 (wrap64 (a1 - 1)), .func (.func 56) #[a2.x] #[]] rfl y3 ?_; (with_reducible refine (ih (hG := ?sideG) k3 (y35 HJ6.out HJ51.out HK3.out) ((rd_T78 l0_4 x82_3).f0) ((rd_T78 l0_4 x82_3).f1) ((rd_T78 l0_4 x82_3).f2) (fun k_ => (((P0_3_ k_ ∨ P0_4_ k_) ∨ w.heap.size ≤ k_) ∧ (k_ ≠ gb426 ∧ (k_ ≠ gb427 ∧ k_ ≠ gb432)))) _ _ ((rd_T78 l0_4 x82_3).f3) (fun k_ => (((P0_3_ k_ ∨ P0_4_ k_) ∨ w.heap.size ≤ k_) ∧ (k_ ≠ gb426 ∧ (k_ ≠ gb427 ∧ k_ ≠ gb432)))) _ _ ((rd_T78 l0_4 x82_3).f4) (wrap64 (a1 - 1)) a2 t433 _ ?side1 ?side2 A73.out).mono ?_); (case sideG => exact hf_gd HG.out (y10 HB.out GE426.out GE427.out GE432.out)); (case side1 => exact HL431_3.out); (case side2 => exact HL431_4.out); rintro e w81 ⟨rfl, hb⟩; refine ⟨_, rfl, ?_⟩; replace HO_80 := Aside0.mk (Kd.V_below (y13 HO_80.out) hb); replace HO_427003 := Aside0.mk (Kd.V_below (y13 HO_427003.out) hb); replace HO_427004 := Aside0.mk (Kd.V_below (y13 HO_427004.out) hb); replace HO_428003 := Aside0.mk (Kd.V_below (y13 HO_428003.out) hb); replace HO_428004 := Aside0.mk (Kd.V_below (y13 HO_428004.out) hb); replace HL431_3 := Aside0.mk (Kd.V_below (y13 HL431_3.out) hb); replace HL431_4 := Aside0.mk (Kd.V_below (y13 HL431_4.out) hb); replace BK426 := zbb BK426 hb; replace BK427 := zbb BK427 hb; (try replace HR431_3 := Aside0.mk (Kd.C_below (y32 HR431_3.out) hb)); (try replace HR431_4 := Aside0.mk (Kd.C_below (y32 HR431_4.out) hb)); replace BK432 := zbb BK432 hb; replace HB := Aside0.mk (below_step (y10 HB.out GE426.out GE427.out GE432.out) hb); (try clear hb); (try clear hb2); (try clear hk); (try clear hi)))
            (try simp only [Act.put, List.setIfInBounds_toArray, List.set_cons_zero, List.set_cons_succ])
            have H := HZ74.out
            clear HZ74
            by_cases c82 : t433 = true
            ·subst c82
             rw [if_pos rfl] at H
             have H' := Aside0.mk H
             clear H
             go_wp2
             go_roundg k3
             case measure => have := HJ6.out; have := HJ51.out; have := HK3.out; omega
             case rel => exact ⟨(wrap64 (x82_3 + 1)), y7, H', ⟨(y35 HJ6.out HJ51.out HK3.out)⟩, ⟨(y31 HO_80.out)⟩, ⟨(y31 HO_427003.out)⟩, ⟨(y31 HO_427004.out)⟩, ⟨(y31 HO_428003.out)⟩, ⟨(y31 HO_428004.out)⟩, ⟨(y8 BK426.out)⟩, ⟨(y8 BK427.out)⟩, ⟨(y10 HB.out GE426.out GE427.out GE432.out)⟩⟩
            ·replace c82 := Bool.eq_false_iff.mpr c82
             subst c82
             rw [if_neg (show ¬ (false = true) by decide)] at H
             obtain rfl := Option.some.inj H
             go_wp2
             go_ret
             exact ⟨y6, (y10 HB.out GE426.out GE427.out GE432.out)⟩
           ·rw [if_neg c72] at H
            exact absurd H (by simp)
          ·rw [if_neg c71] at H
           exact absurd H (by simp)
         ·rw [if_neg c70] at H
          have c70b0 : decide (x82_3 < (l0_4.length : Int)) = false := decide_eq_false c70
          clear c70
          obtain rfl := Option.some.inj H
          go_wp2
          go_ret
          exact ⟨y6, (y5 HB.out GE426.out GE427.out)⟩
end Go.Proofs.Ytdgpegkgelciaaa.PA
end
section
namespace Go.Proofs.Ytdgpegkgelciaaa.PA
open Go.RowKit Go.MapKept Go.Proofs.YtdgpegkgelciaaaW.PrintWords Go.Proofs.YtdgpegkgelciaaaW.PrintLast Go.Proofs.YtdgpegkgelciaaaW.PrintMore
theorem k78_heap' : Kd.Heap k78 := Kd.heap_fix (fun _ h_ => Kd.heap_iso _ (Kd.heap_pair (Kd.heap_int .i64) (Kd.heap_pair (Kd.heap_int .i64) (Kd.heap_pair Kd.heap_string (Kd.heap_pair (Kd.heap_slice 3 (Kd.heap_int .i64)) (Kd.heap_slice 78 h_))))))
theorem V_of_C {α : Type} {d : Kd α} (hd : Kd.Heap d) {w W : World} {A : Option Addr} {c : Nat} {xs : List α} (h : d.C w A xs.length xs) (hl : xs.length ≤ c) (hb : Below w.heap.size w W) (e base : Nat) : Kd.V d e W base (fun k => k < w.heap.size) (.slice A xs.length c) xs :=
  Kd.V_mk hl (fun _ hW => hd.C (fun k hk => (hW k hk (Nat.lt_of_lt_of_le hk hb.size)).trans (hb.block k hk)) h)
def TkOk (tk : List ByteArray → S78 → Bool) : Prop := ∀ (x : Value) (l : List ByteArray) (t : S78), ∃ k, impl_termOk.f k t.f0 t.f1 t.f2 t.f3 t.f4 8 ⟨x, nhas l⟩ = some (tk l t)
set_option maxHeartbeats 4000000 in
set_option maxRecDepth 100000 in
theorem terms_calls (tk : List ByteArray → S78 → Bool) (htk : TkOk tk) (m : Mp) (v : Value) (A : Option Addr) (c : Nat) (ts : List S78) (w : World) (hm : HfM m w) (hr : Kd.C k78 w A ts.length ts) :
    Calls Try.prog 42 #[.agg #[v, .map (some m.a)], .slice A ts.length c] w fun e w' => e = .returned (.bool (ts.all (tk m.l))) ∧ Below w.heap.size w w' := by
  have hu55 := Try.underlying55
  have hu41 := Try.underlying41
  have hu78 := Try.underlying78
  obtain ⟨i0, hi0, _, hsz, _⟩ := info_parts info78
  have HM := Aside0.mk hm
  have hn := hr.2.1
  have HR := Aside0.mk hr
  clear hm hr
  go_enter Try.func42, Try.ntmps42
  go_wp2
  go_loopg [9] (ts.length + 1) (fun kq v9 w' => ∃ j : Nat, v9 = .int .i64 j ∧ Aside0 (kq + j = ts.length + 1 ∧ j ≤ ts.length) ∧ Aside0 (ts.all (tk m.l) = (ts.drop j).all (tk m.l)) ∧ Aside0 (Below (w.heap.size + 1) (w.alloc (.cells #[v, .map (some m.a)] 55)) w'))
  case atStart => exact ⟨0, rfl, ⟨rfl, Nat.zero_le _⟩, ⟨rfl⟩, ⟨Below.refl _ _⟩⟩
  case round =>
    obtain ⟨j, rfl, HK, HF, HB⟩ := hrel
    have hB0 : Below w.heap.size w wr := ((Below.refl _ w).alloc (Nat.le_refl _) _).trans (HB.out.mono (by omega))
    have hb0 : (w.alloc (.cells #[v, .map (some m.a)] 55)).heap[w.heap.size]? = some (.cells #[v, .map (some m.a)] 55 (0, 0)) := by simpa using heap_alloc_new w _
    have hb1 := (HB.out.block w.heap.size (by omega)).trans hb0
    have hq0 : wr.cell? ⟨w.heap.size, 0, none⟩ = some v := (blk_cell hb1 0).trans rfl
    have hq1 : wr.cell? ⟨w.heap.size, 1, none⟩ = some (.map (some m.a)) := (blk_cell hb1 1).trans rfl
    cases gk with
    | zero => exact absurd HK.out (by omega)
    | succ k1 =>
      by_cases hj : j < ts.length
      · have c0 : decide ((j : Int) < (ts.length : Int)) = true := decide_eq_true (by omega)
        have c1 : decide (j < ts.length) = true := decide_eq_true hj
        have p0 : 0 ≤ (j : Int) := by omega
        have q0 : (j : Int) < (ts.length : Int) := by omega
        obtain ⟨ad, A3, c3, A4, c4, e, hx0, hx1, hx2, hx3, hx4, hl3, hi3, hl4, hi4⟩ := at_T78 HR.out (j : Int) p0 q0
        cases e
        replace hx0 := pw_cell_below hB0 hx0
        replace hx1 := pw_cell_below hB0 hx1
        replace hx2 := pw_cell_below hB0 hx2
        replace hx3 := pw_cell_below hB0 hx3
        replace hx4 := pw_cell_below hB0 hx4
        simp only [Int.toNat_natCast] at hx0 hx1 hx2 hx3 hx4
        replace p0 := eq_true p0
        replace q0 := eq_true q0
        have e0 : ts.drop j = rd_T78 ts j :: ts.drop (j + 1) := by rw [List.drop_eq_getElem_cons hj]; simp [rd_T78, hj]
        have hB1 : Below wr.heap.size wr (wr.alloc (.cells #[.int .i64 (rd_T78 ts j).f0, .int .i64 (rd_T78 ts j).f1, .string (rd_T78 ts j).f2, .slice A3 (rd_T78 ts j).f3.length c3, .slice A4 (rd_T78 ts j).f4.length c4] 78)) := (Below.refl _ _).alloc (Nat.le_refl _) _
        replace hq0 := pw_cell_below hB1 hq0
        replace hq1 := pw_cell_below hB1 hq1
        have HB1 := Aside0.mk hB1
        clear hB1
        obtain ⟨k, hk⟩ := htk (.agg #[v, .map (some m.a)]) m.l (rd_T78 ts j)
        have HK2 := Aside0.mk hk
        clear hk
        have hB2 : Below w.heap.size w (wr.alloc (.cells #[.int .i64 (rd_T78 ts j).f0, .int .i64 (rd_T78 ts j).f1, .string (rd_T78 ts j).f2, .slice A3 (rd_T78 ts j).f3.length c3, .slice A4 (rd_T78 ts j).f4.length c4] 78)) := hB0.trans (HB1.out.mono hB0.size)
        have HG := Aside0.mk (HfM.fv (HM.out.gd hB2) v)
        have HV3 := Aside0.mk (V_of_C (Kd.heap_int .i64) hi3 hl3 hB2 3 (wr.alloc (.cells #[.int .i64 (rd_T78 ts j).f0, .int .i64 (rd_T78 ts j).f1, .string (rd_T78 ts j).f2, .slice A3 (rd_T78 ts j).f3.length c3, .slice A4 (rd_T78 ts j).f4.length c4] 78)).heap.size)
        have HV4 := Aside0.mk (V_of_C k78_heap' hi4 hl4 hB2 78 (wr.alloc (.cells #[.int .i64 (rd_T78 ts j).f0, .int .i64 (rd_T78 ts j).f1, .string (rd_T78 ts j).f2, .slice A3 (rd_T78 ts j).f3.length c3, .slice A4 (rd_T78 ts j).f4.length c4] 78)).heap.size)
        have HB2 := Aside0.mk hB2
        clear hB2 hi3 hi4 hl3 hl4
        have HE0 := Aside0.mk e0
        clear e0
        have hstep : ∀ w2, Below (wr.alloc (.cells #[.int .i64 (rd_T78 ts j).f0, .int .i64 (rd_T78 ts j).f1, .string (rd_T78 ts j).f2, .slice A3 (rd_T78 ts j).f3.length c3, .slice A4 (rd_T78 ts j).f4.length c4] 78)).heap.size (wr.alloc (.cells #[.int .i64 (rd_T78 ts j).f0, .int .i64 (rd_T78 ts j).f1, .string (rd_T78 ts j).f2, .slice A3 (rd_T78 ts j).f3.length c3, .slice A4 (rd_T78 ts j).f4.length c4] 78)) w2 → Below w.heap.size w w2 ∧ Below (w.heap.size + 1) (w.alloc (.cells #[v, .map (some m.a)] 55)) w2 := fun w2 h => ⟨HB2.out.trans (h.mono HB2.out.size), HB.out.trans ((HB1.out.mono (by simpa using HB.out.size)).trans (h.mono (by have := HB.out.size; have := HB1.out.size; simp at *; omega)))⟩
        have HS := Aside0.mk hstep
        clear hstep
        by_cases hq : tk m.l (rd_T78 ts j) = true
        · go_wp2_with (go_at_call 55; refine (impl_termOk.calls k _ _ _ _ _ _ _ _ _ _ _ 8 ⟨.agg #[v, .map (some m.a)], nhas m.l⟩ _ _ HG.out HV3.out HV4.out HK2.out).mono ?_; rintro e w2 ⟨rfl, hb2⟩)
          go_roundg k1
          case measure => omega
          case rel => exact ⟨j + 1, by simp, ⟨by have := HK.out; omega, hj⟩, ⟨by rw [HF.out, HE0.out, List.all_cons, hq, Bool.true_and]⟩, ⟨(HS.out _ hb2).2⟩⟩
        · replace hq : tk m.l (rd_T78 ts j) = false := by simpa using hq
          go_wp2_with (go_at_call 55; refine (impl_termOk.calls k _ _ _ _ _ _ _ _ _ _ _ 8 ⟨.agg #[v, .map (some m.a)], nhas m.l⟩ _ _ HG.out HV3.out HV4.out HK2.out).mono ?_; rintro e w2 ⟨rfl, hb2⟩)
          go_ret
          exact ⟨by rw [HF.out, HE0.out, List.all_cons, hq, Bool.false_and]; rfl, (HS.out _ hb2).1⟩
      · have c0 : decide ((j : Int) < (ts.length : Int)) = false := decide_eq_false (by omega)
        have c1 : decide (j < ts.length) = false := decide_eq_false hj
        go_wp2
        go_ret
        have e : ts.drop j = [] := List.drop_eq_nil_of_le (by omega)
        have h := HF.out
        rw [e] at h
        exact ⟨by rw [h]; rfl, hB0⟩
end Go.Proofs.Ytdgpegkgelciaaa.PA
end
section
namespace Go.Proofs.Ytdgpegkgelciaaa.PA
open Go.RowKit Go.MapKept Go.Proofs.YtdgpegkgelciaaaW.PrintWords Go.Proofs.YtdgpegkgelciaaaW.PrintLast Go.Proofs.YtdgpegkgelciaaaW.PrintMore
theorem bcellN {n : Nat} {W w1 : World} (hb : Below n W w1) : (∀ b o, b < n → w1.cell? ⟨b, o, none⟩ = W.cell? ⟨b, o, none⟩) ∧ (∀ b o, b < n → w1.frozen? ⟨b, o, none⟩ = W.frozen? ⟨b, o, none⟩) :=
  ⟨fun b o h => hb.cell (p := ⟨b, o, none⟩) h, fun b o h => hb.frozen (p := ⟨b, o, none⟩) h⟩
theorem stepN {n : Nat} {w0 W w1 : World} (h : Below n w0 W) (hn : n ≤ w0.heap.size) (hb : Below W.heap.size W w1) : Below n w0 w1 := h.trans (hb.mono (Nat.le_trans hn h.size))
theorem ret_bool {a b : Bool} (h : a = b) : Ending.returned (.bool a) = .returned (.bool b) := by rw [h]
theorem alN {n : Nat} {w0 W : World} (h : Below n w0 W) (hn : n ≤ w0.heap.size) (o : Obj) : Below n w0 (W.alloc o) := h.alloc (Nat.le_trans hn h.size) o
def zB (n : Nat) : Bool := n == 0
def oB (n : Nat) : Bool := n == 1
def nB (n m : Nat) : Bool := zB n && zB m
def qB (n m : Nat) : Bool := n == m
def sB (s : ByteArray) : Bool := s.toList.isEmpty
theorem zB_eq (n : Nat) : ((n : Int) == 0) = zB n := by unfold zB; cases n <;> simp; omega
theorem oB_eq (n : Nat) : ((n : Int) == 1) = oB n := by
  unfold oB
  by_cases h : n = 1
  · simp [h]
  · rw [beq_eq_false_iff_ne.2 h, beq_eq_false_iff_ne]; omega
theorem qB_eq (n m : Nat) : ((n : Int) == (m : Int)) = qB n m := by
  unfold qB
  by_cases h : n = m
  · simp [h]
  · rw [beq_eq_false_iff_ne.2 h, beq_eq_false_iff_ne]; omega
theorem nothing_calls (A0 A1 : Option Addr) (c0 c1 n0 n1 : Nat) (w : World) :
    Calls Try.prog 54 #[.agg #[.slice A0 n0 c0, .slice A1 n1 c1]] w fun e w' => e = .returned (.bool (nB n0 n1)) ∧ Below w.heap.size w w' := by
  have hu43 := Try.underlying43
  have e0 := zB_eq n0
  have e1 := zB_eq n1
  unfold nB
  cases h0 : zB n0 with
  | false =>
    rw [h0] at e0
    clear h0 e1
    go_enter Try.func54, Try.ntmps54
    go_wp2
    go_ret
    exact ⟨rfl, (Below.refl _ _).alloc (Nat.le_refl _) _⟩
  | true =>
    rw [h0] at e0
    clear h0
    go_enter Try.func54, Try.ntmps54
    go_wp2
    go_ret
    exact ⟨rfl, (Below.refl _ _).alloc (Nat.le_refl _) _⟩
section
variable (T Y1 Y2 : Bool) (m : Mp) (v : Value) (A1 A3 A4 A5 A6 A7 : Option Addr) (c1 c3 c4 c5 c6 c7 : Nat) (d : Int) (fn : ByteArray) (n1 n3 n4 n5 n6 n7 : Nat) (w : World)
  (HT : Aside0 (∀ W, Below w.heap.size w W → Calls Try.prog 42 #[.agg #[v, .map (some m.a)], .slice A3 n3 c3] W fun e w' => e = .returned (.bool T) ∧ Below W.heap.size W w'))
include HT in
set_option maxHeartbeats 4000000 in
set_option maxRecDepth 100000 in
theorem binding1 : Calls Try.prog 41 #[.agg #[v, .map (some m.a)], .agg #[.int .i64 1, .slice A1 n1 c1, .string fn, .slice A3 n3 c3, .slice A4 n4 c4, .slice A5 n5 c5, .slice A6 n6 c6, .slice A7 n7 c7], .int .i64 d] w fun e w' => e = .returned (.bool (nB n4 n5 && nB n6 n7 && sB fn && (oB n1 && oB n3 && T))) ∧ Below w.heap.size w w' := by
  have hu55 := Try.underlying55
  have hu64 := Try.underlying64
  have HB := Aside0.mk (((Below.refl _ w).alloc (Nat.le_refl _) (.cells #[v, .map (some m.a)] 55)).alloc (by simp) (.cells #[.int .i64 1, .slice A1 n1 c1, .string fn, .slice A3 n3 c3, .slice A4 n4 c4, .slice A5 n5 c5, .slice A6 n6 c6, .slice A7 n7 c7] 64))
  have HC := Aside0.mk (Below.refl (w.heap.size + 2) ((w.alloc (.cells #[v, .map (some m.a)] 55)).alloc (.cells #[.int .i64 1, .slice A1 n1 c1, .string fn, .slice A3 n3 c3, .slice A4 n4 c4, .slice A5 n5 c5, .slice A6 n6 c6, .slice A7 n7 c7] 64)))
  have es : fn.toList.isEmpty = sB fn := rfl
  have e1 := oB_eq n1
  have e3 := oB_eq n3
  cases hs : sB fn <;> rw [hs] at es <;> clear hs
  all_goals
    go_enter Try.func41, Try.ntmps41
    go_wp2_with (first | (go_at_call 54; refine (nothing_calls _ _ _ _ _ _ _).mono ?_; rintro e w2 ⟨rfl, hb2⟩; replace HB := Aside0.mk (below_step HB.out hb2); replace HC := Aside0.mk (stepN HC.out (by simp) hb2); obtain ⟨hc2, hf2⟩ := bcellN HC.out; clear hb2) | (go_at_call 42; (with_reducible refine (HT.out _ HB.out).mono ?_); rintro e w2 ⟨rfl, hb2⟩; replace HB := Aside0.mk (below_step HB.out hb2); replace HC := Aside0.mk (stepN HC.out (by simp) hb2); obtain ⟨hc2, hf2⟩ := bcellN HC.out; clear hb2))
    all_goals (go_ret; refine ⟨?_, HB.out⟩; clear HB HC HT; refine ret_bool ?_; simp [*])
set_option maxHeartbeats 4000000 in
set_option maxRecDepth 100000 in
theorem binding0 (k : Int) (h1 : k ≠ 1) (h2 : k ≠ 2) (h3 : k ≠ 3) : Calls Try.prog 41 #[.agg #[v, .map (some m.a)], .agg #[.int .i64 k, .slice A1 n1 c1, .string fn, .slice A3 n3 c3, .slice A4 n4 c4, .slice A5 n5 c5, .slice A6 n6 c6, .slice A7 n7 c7], .int .i64 d] w fun e w' => e = .returned (.bool (false)) ∧ Below w.heap.size w w' := by
  have hu55 := Try.underlying55
  have hu64 := Try.underlying64
  have HB := Aside0.mk (((Below.refl _ w).alloc (Nat.le_refl _) (.cells #[v, .map (some m.a)] 55)).alloc (by simp) (.cells #[.int .i64 k, .slice A1 n1 c1, .string fn, .slice A3 n3 c3, .slice A4 n4 c4, .slice A5 n5 c5, .slice A6 n6 c6, .slice A7 n7 c7] 64))
  have HC := Aside0.mk (Below.refl (w.heap.size + 2) ((w.alloc (.cells #[v, .map (some m.a)] 55)).alloc (.cells #[.int .i64 k, .slice A1 n1 c1, .string fn, .slice A3 n3 c3, .slice A4 n4 c4, .slice A5 n5 c5, .slice A6 n6 c6, .slice A7 n7 c7] 64)))
  have es : fn.toList.isEmpty = sB fn := rfl
  have k1 : (k == 1) = false := by simpa using h1
  have k2 : (k == 2) = false := by simpa using h2
  have k3 : (k == 3) = false := by simpa using h3
  have l2 : (k != 2) = true := by simpa using h2
  have l3 : (k != 3) = true := by simpa using h3
  clear h1 h2 h3
  cases hs : sB fn <;> rw [hs] at es <;> clear hs
  all_goals
    go_enter Try.func41, Try.ntmps41
    go_wp2_with (first | (go_at_call 54; refine (nothing_calls _ _ _ _ _ _ _).mono ?_; rintro e w2 ⟨rfl, hb2⟩; replace HB := Aside0.mk (below_step HB.out hb2); replace HC := Aside0.mk (stepN HC.out (by simp) hb2); obtain ⟨hc2, hf2⟩ := bcellN HC.out; clear hb2))
    all_goals (go_ret; refine ⟨?_, HB.out⟩; clear HB HC; refine ret_bool ?_; simp [*])
include HT in
set_option maxHeartbeats 4000000 in
set_option maxRecDepth 100000 in
theorem binding3 (hd : 0 ≤ d ∧ d ≤ 6) (HY1 : Aside0 (∀ W, Below w.heap.size w W → Calls Try.prog 25 #[.agg #[v, .map (some m.a)], .agg #[.slice A4 n4 c4, .slice A5 n5 c5], .int .i64 (d + 1)] W fun e w' => e = .returned (.bool Y1) ∧ Below W.heap.size W w')) (HY2 : Aside0 (∀ W, Below w.heap.size w W → Calls Try.prog 25 #[.agg #[v, .map (some m.a)], .agg #[.slice A6 n6 c6, .slice A7 n7 c7], .int .i64 (d + 1)] W fun e w' => e = .returned (.bool Y2) ∧ Below W.heap.size W w')) : Calls Try.prog 41 #[.agg #[v, .map (some m.a)], .agg #[.int .i64 3, .slice A1 n1 c1, .string fn, .slice A3 n3 c3, .slice A4 n4 c4, .slice A5 n5 c5, .slice A6 n6 c6, .slice A7 n7 c7], .int .i64 d] w fun e w' => e = .returned (.bool (sB fn && (oB n3 && T && qB n1 n5 && qB n1 n7 && Y1 && Y2))) ∧ Below w.heap.size w w' := by
  have hu55 := Try.underlying55
  have hu64 := Try.underlying64
  have HB := Aside0.mk (((Below.refl _ w).alloc (Nat.le_refl _) (.cells #[v, .map (some m.a)] 55)).alloc (by simp) (.cells #[.int .i64 3, .slice A1 n1 c1, .string fn, .slice A3 n3 c3, .slice A4 n4 c4, .slice A5 n5 c5, .slice A6 n6 c6, .slice A7 n7 c7] 64))
  have HC := Aside0.mk (Below.refl (w.heap.size + 2) ((w.alloc (.cells #[v, .map (some m.a)] 55)).alloc (.cells #[.int .i64 3, .slice A1 n1 c1, .string fn, .slice A3 n3 c3, .slice A4 n4 c4, .slice A5 n5 c5, .slice A6 n6 c6, .slice A7 n7 c7] 64)))
  have es : fn.toList.isEmpty = sB fn := rfl
  have e3 := oB_eq n3
  have e5 := qB_eq n1 n5
  have e7 := qB_eq n1 n7
  obtain ⟨hd0, hd1⟩ := hd
  cases hs : sB fn <;> rw [hs] at es <;> clear hs
  all_goals
    go_enter Try.func41, Try.ntmps41
    go_wp2_with (first | (go_at_call 42; (with_reducible refine (HT.out _ HB.out).mono ?_); rintro e w2 ⟨rfl, hb2⟩; replace HB := Aside0.mk (below_step HB.out hb2); replace HC := Aside0.mk (stepN HC.out (by simp) hb2); obtain ⟨hc2, hf2⟩ := bcellN HC.out; clear hb2) | (go_at_call 25; (with_reducible refine (HY1.out _ HB.out).mono ?_); rintro e w2 ⟨rfl, hb2⟩; replace HB := Aside0.mk (below_step HB.out hb2); replace HC := Aside0.mk (stepN HC.out (by simp) hb2); obtain ⟨hc2, hf2⟩ := bcellN HC.out; clear hb2) | (go_at_call 25; (with_reducible refine (HY2.out _ HB.out).mono ?_); rintro e w2 ⟨rfl, hb2⟩; replace HB := Aside0.mk (below_step HB.out hb2); replace HC := Aside0.mk (stepN HC.out (by simp) hb2); obtain ⟨hc2, hf2⟩ := bcellN HC.out; clear hb2))
    all_goals (go_ret; refine ⟨?_, HB.out⟩; clear HB HC HT HY1 HY2; refine ret_bool ?_; simp [*])
include HT in
set_option maxHeartbeats 4000000 in
set_option maxRecDepth 100000 in
theorem binding2 (ok : Bool) (pn : ByteArray) (np nq ns : Nat) (HF : Aside0 (∀ W, Below w.heap.size w W → Calls Try.prog 21 #[v, .string fn] W fun e w' => (∃ X1 y1 X2 y2 X3 y3, e = .returned (.tuple #[.agg #[.string pn, .slice X1 np y1, .slice X2 nq y2, .slice X3 ns y3], .bool ok])) ∧ Below W.heap.size W w')) : Calls Try.prog 41 #[.agg #[v, .map (some m.a)], .agg #[.int .i64 2, .slice A1 n1 c1, .string fn, .slice A3 n3 c3, .slice A4 n4 c4, .slice A5 n5 c5, .slice A6 n6 c6, .slice A7 n7 c7], .int .i64 d] w fun e w' => e = .returned (.bool (nB n4 n5 && nB n6 n7 && (ok && qB n3 np && qB n1 ns && T))) ∧ Below w.heap.size w w' := by
  have hu55 := Try.underlying55
  have hu64 := Try.underlying64
  have HB := Aside0.mk (((Below.refl _ w).alloc (Nat.le_refl _) (.cells #[v, .map (some m.a)] 55)).alloc (by simp) (.cells #[.int .i64 2, .slice A1 n1 c1, .string fn, .slice A3 n3 c3, .slice A4 n4 c4, .slice A5 n5 c5, .slice A6 n6 c6, .slice A7 n7 c7] 64))
  have HC := Aside0.mk (Below.refl (w.heap.size + 2) ((w.alloc (.cells #[v, .map (some m.a)] 55)).alloc (.cells #[.int .i64 2, .slice A1 n1 c1, .string fn, .slice A3 n3 c3, .slice A4 n4 c4, .slice A5 n5 c5, .slice A6 n6 c6, .slice A7 n7 c7] 64)))
  have hu45 := Try.underlying45
  have hu43 := Try.underlying43
  have e3 := qB_eq n3 np
  have e1 := qB_eq n1 ns
  have hs0 : w.heap.size + 1 < ((w.alloc (.cells #[v, .map (some m.a)] 55)).alloc (.cells #[.int .i64 2, .slice A1 n1 c1, .string fn, .slice A3 n3 c3, .slice A4 n4 c4, .slice A5 n5 c5, .slice A6 n6 c6, .slice A7 n7 c7] 64)).heap.size := by simp
  have HS := Aside0.mk hs0
  clear hs0
  go_enter Try.func41, Try.ntmps41
  go_wp2_with (first | (go_at_call 54; refine (nothing_calls _ _ _ _ _ _ _).mono ?_; rintro e w2 ⟨rfl, hb2⟩; replace HB := Aside0.mk (below_step HB.out hb2); replace HC := Aside0.mk (stepN HC.out (by simp) hb2); obtain ⟨hc2, hf2⟩ := bcellN HC.out; clear hb2) | (go_at_call 21; (with_reducible refine (HF.out _ HB.out).mono ?_); rintro e w2 ⟨⟨X1, y1, X2, y2, X3, y3, rfl⟩, hb2⟩; replace HB := Aside0.mk (below_step HB.out hb2); replace HC := Aside0.mk (stepN HC.out (by simp) hb2); obtain ⟨hc2, hf2⟩ := bcellN HC.out; clear hb2; have hz1 := Nat.lt_of_lt_of_le HS.out HC.out.size; have hz2 := Nat.lt_of_succ_lt hz1) | (go_at_call 42; (with_reducible refine (HT.out _ (alN HB.out (Nat.le_refl _) _)).mono ?_); rintro e w2 ⟨rfl, hb2⟩; replace HB := Aside0.mk (below_step (alN HB.out (Nat.le_refl _) _) hb2); clear hc2 hf2 hz1 hz2 hb2))
  all_goals (go_ret; refine ⟨?_, by first | exact HB.out | exact alN HB.out (Nat.le_refl _) _⟩; clear HB HC HT HF HS; refine ret_bool ?_; simp [*])
end
end Go.Proofs.Ytdgpegkgelciaaa.PA
end
section
namespace Go.Proofs.Ytdgpegkgelciaaa.PA
open Go.RowKit Go.Proofs.YtdgpegkgelciaaaW.PrintWords Go.Proofs.YtdgpegkgelciaaaW.PrintLast Go.Proofs.YtdgpegkgelciaaaW.PrintMore
attribute [local go_sem] max2_int min2_int max_two min_two max_three min_three max_four min_four
set_option linter.unusedVariables false
set_option linter.unusedSimpArgs false
def slices_Index_string_string.l0 : Nat → List ByteArray → ByteArray → Int → Int → Option (Int)
 | 0, _, _, _, _ => none
 | k + 1, x0, x1, x7, x8 => if x8 < x7 then (if 0 ≤ x8 then (if x8 < (x0.length : Int) then (if x1.toList = (rdOf ByteArray.empty x0 x8).toList then (some x8) else (slices_Index_string_string.l0 k x0 x1 x7 (wrap64 (x8 + 1)))) else (none)) else (none)) else (some (-1))
def slices_Index_string_string.f (k : Nat) (l0 : List ByteArray) (a1 : ByteArray) : Option (Int) := slices_Index_string_string.l0 k l0 a1 (l0.length : Int) 0
theorem slices_Index_string_string.mono_l : ∀ k, (∀ y0 y1 y2 y3, LeO (slices_Index_string_string.l0 k y0 y1 y2 y3) (slices_Index_string_string.l0 (k + 1) y0 y1 y2 y3))
 | 0 => fun _ _ _ _ r h => by simp [slices_Index_string_string.l0] at h
 | k + 1 => by
  have ih0 := slices_Index_string_string.mono_l k
  ·intro y0 y1 y2 y3
   unfold slices_Index_string_string.l0
   repeat' first
   | (with_reducible exact ih0 _ _ _ _)
   | (with_reducible exact LeO.refl _)
   | (with_reducible exact LeO.none _)
   | (with_reducible refine LeO.ite ?_ ?_)
   | (with_reducible refine LeO.bind ?_ (fun _ => ?_))
   | exact ih0 _ _ _ _
   | exact LeO.none _
   | refine LeO.ite ?_ ?_
   | refine LeO.bind ?_ (fun _ => ?_)
theorem slices_Index_string_string.mono : ∀ a0 a1 k, LeO (slices_Index_string_string.f k a0 a1) (slices_Index_string_string.f (k + 1) a0 a1) := by
 intro a0 a1 k
 have ih0 := slices_Index_string_string.mono_l k
 unfold slices_Index_string_string.f
 repeat' first
   | (with_reducible exact ih0 _ _ _ _)
   | (with_reducible exact LeO.refl _)
   | (with_reducible exact LeO.none _)
   | (with_reducible refine LeO.ite ?_ ?_)
   | (with_reducible refine LeO.bind ?_ (fun _ => ?_))
   | exact ih0 _ _ _ _
   | exact LeO.none _
   | refine LeO.ite ?_ ?_
   | refine LeO.bind ?_ (fun _ => ?_)
set_option maxHeartbeats 8000000 in
set_option maxRecDepth 100000 in
theorem slices_Index_string_string.calls (k : Nat) (A0 : Option Addr) (c0 : Nat) (l0 : List ByteArray) (a1 : ByteArray) (r : Int) (w : World) (hr0 : Kd.C Kd.string w A0 l0.length l0) (hc0 : l0.length ≤ c0) (h : slices_Index_string_string.f k l0 a1 = some r) :
  Calls Try.prog 52 #[.slice A0 l0.length c0, .string a1] w fun e w' => e = .returned (.int .i64 r) ∧ Drawn0 w w' := by
 have HR0 := Aside0.mk hr0
 have HC0 := Aside0.mk hc0
 clear hr0 hc0
 have H : (slices_Index_string_string.l0 k l0 a1 (l0.length : Int) 0) = some r := h
 clear h
 have H' := Aside0.mk H
 clear H
 go_enter Try.func52, Try.ntmps52
 go_wp2
 go_loopg [8] k (fun kq v8 w' => ∃ (x8_1 : Int), v8 = .int .i64 x8_1 ∧ Aside0 (slices_Index_string_string.l0 kq l0 a1 (l0.length : Int) x8_1 = some r) ∧ Aside0 (kq ≤ k) ∧ Drawn0 w w')
 case atStart => exact ⟨(0), y7, H', ⟨Nat.le_refl _⟩, y12⟩
 case round =>
  clear H'
  try clear p2
  obtain ⟨x8_1, rfl, HA, HK1, ⟨m1, rfl⟩⟩ := hrel
  cases gk with
  | zero => exact absurd HA.out (by simp [slices_Index_string_string.l0])
  | succ k1 =>
   have H := HA.out
   clear HA
   simp only [slices_Index_string_string.l0] at H
   by_cases c3 : x8_1 < (l0.length : Int)
   ·rw [if_pos c3] at H
    have c3b0 : decide (x8_1 < (l0.length : Int)) = true := decide_eq_true c3
    clear c3
    by_cases c4 : 0 ≤ x8_1
    ·rw [if_pos c4] at H
     have c4b0 : decide (0 ≤ x8_1) = true := decide_eq_true c4
     clear c4
     by_cases c5 : x8_1 < (l0.length : Int)
     ·rw [if_pos c5] at H
      have c5b0 : decide (x8_1 < (l0.length : Int)) = true := decide_eq_true c5
      clear c5
      by_cases c6 : a1.toList = (rdOf ByteArray.empty l0 x8_1).toList
      ·rw [if_pos c6] at H
       have c6b0 : (a1.toList == (rdOf ByteArray.empty l0 x8_1).toList) = true := beq_iff_eq.mpr c6
       have c6b1 : (a1.toList != (rdOf ByteArray.empty l0 x8_1).toList) = false := bne_eq_false_iff_eq.mpr c6
       clear c6
       obtain rfl := Option.some.inj H
       have p415 : 0 ≤ (x8_1 : Int) := of_decide_eq_true y4
       have q415 : x8_1 < (l0.length : Int) := of_decide_eq_true y4
       obtain ⟨ad415, e415, hx415_0⟩ := Kd.at_string HR0.out x8_1 p415 q415
       cases e415
       replace p415 := eq_true p415
       replace q415 := eq_true q415
       go_wp2
       go_ret
       exact ⟨y7, y12⟩
      ·rw [if_neg c6] at H
       have c6b0 : (a1.toList == (rdOf ByteArray.empty l0 x8_1).toList) = false := beq_eq_false_iff_ne.mpr c6
       have c6b1 : (a1.toList != (rdOf ByteArray.empty l0 x8_1).toList) = true := bne_iff_ne.mpr c6
       have H' := Aside0.mk H
       clear H
       have p415 : 0 ≤ (x8_1 : Int) := of_decide_eq_true y4
       have q415 : x8_1 < (l0.length : Int) := of_decide_eq_true y4
       obtain ⟨ad415, e415, hx415_0⟩ := Kd.at_string HR0.out x8_1 p415 q415
       cases e415
       replace p415 := eq_true p415
       replace q415 := eq_true q415
       go_wp2
       go_roundg k1
       case measure => have := HK1.out; omega
       case rel => exact ⟨(wrap64 (x8_1 + 1)), y7, H', ⟨(y30 HK1.out)⟩, y12⟩
     ·rw [if_neg c5] at H
      exact absurd H (by simp)
    ·rw [if_neg c4] at H
     exact absurd H (by simp)
   ·rw [if_neg c3] at H
    have c3b0 : decide (x8_1 < (l0.length : Int)) = false := decide_eq_false c3
    clear c3
    obtain rfl := Option.some.inj H
    go_wp2
    go_ret
    exact ⟨y7, y12⟩
end Go.Proofs.Ytdgpegkgelciaaa.PA
end
section
namespace Go.Proofs.Ytdgpegkgelciaaa.PA
open Go.RowKit Go.Proofs.YtdgpegkgelciaaaW.PrintWords Go.Proofs.YtdgpegkgelciaaaW.PrintLast Go.Proofs.YtdgpegkgelciaaaW.PrintMore
attribute [local go_sem] max2_int min2_int max_two min_two max_three min_three max_four min_four
set_option linter.unusedVariables false
set_option linter.unusedSimpArgs false
def slices_Contains_string_string.f (k : Nat) (l0 : List ByteArray) (a1 : ByteArray) : Option (Bool) := (slices_Index_string_string.f k l0 a1).bind fun t416 => (some (decide (t416 ≥ 0)))
theorem slices_Contains_string_string.mono : ∀ a0 a1 k, LeO (slices_Contains_string_string.f k a0 a1) (slices_Contains_string_string.f (k + 1) a0 a1) := by
 intro a0 a1 k
 unfold slices_Contains_string_string.f
 repeat' first
   | (with_reducible exact slices_Index_string_string.mono _ _ _)
   | (with_reducible exact LeO.refl _)
   | (with_reducible exact LeO.none _)
   | (with_reducible refine LeO.ite ?_ ?_)
   | (with_reducible refine LeO.bind ?_ (fun _ => ?_))
   | exact slices_Index_string_string.mono _ _ _
   | exact LeO.none _
   | refine LeO.ite ?_ ?_
   | refine LeO.bind ?_ (fun _ => ?_)
set_option maxHeartbeats 8000000 in
set_option maxRecDepth 100000 in
theorem slices_Contains_string_string.calls (k : Nat) (A0 : Option Addr) (c0 : Nat) (l0 : List ByteArray) (a1 : ByteArray) (r : Bool) (w : World) (hr0 : Kd.C Kd.string w A0 l0.length l0) (hc0 : l0.length ≤ c0) (h : slices_Contains_string_string.f k l0 a1 = some r) :
  Calls Try.prog 39 #[.slice A0 l0.length c0, .string a1] w fun e w' => e = .returned (.bool r) ∧ Drawn0 w w' := by
 have HR0 := Aside0.mk hr0
 have HC0 := Aside0.mk hc0
 clear hr0 hc0
 have H : ((slices_Index_string_string.f k l0 a1).bind fun t416 => (some (decide (t416 ≥ 0)))) = some r := h
 clear h
 obtain ⟨t416, A30, H⟩ := ob H
 have A3 := Aside0.mk A30
 clear A30
 obtain rfl := Option.some.inj H
 go_enter Try.func39, Try.ntmps39
 go_wp2_with (first | ((with_reducible refine gate_callee (f := 52) rfl ?_); refine goesL_ (some 7) rfl rfl Try.func52 (by kernel_rfl) rfl #[.slice A0 l0.length c0, .string a1] rfl y3 ?_; (with_reducible refine (slices_Index_string_string.calls k _ _ l0 a1 t416 _ ?side1 ?side2 A3.out).mono ?_); (case side1 => exact y24 HR0.out); (case side2 => exact HC0.out); rintro e w' ⟨rfl, ⟨nd, rfl⟩⟩; refine ⟨_, rfl, ?_⟩))
 go_ret
 exact ⟨y7, y12⟩
end Go.Proofs.Ytdgpegkgelciaaa.PA
end
section
namespace Go.Proofs.Ytdgpegkgelciaaa.PA
open Go.RowKit Go.Proofs.YtdgpegkgelciaaaW.PrintWords Go.Proofs.YtdgpegkgelciaaaW.PrintLast Go.Proofs.YtdgpegkgelciaaaW.PrintMore
attribute [local go_sem] max2_int min2_int max_two min_two max_three min_three max_four min_four
set_option linter.unusedVariables false
set_option linter.unusedSimpArgs false
def impl_pureNames.l0 : Nat → List ByteArray → List ByteArray → Int → Int → Option (Bool)
 | 0, _, _, _, _ => none
 | k + 1, x0, x8, x9, x10 => if x10 < x9 then (if 0 ≤ x10 then (if x10 < (x8.length : Int) then ((impl_pureName.f k (rdOf ByteArray.empty x8 x10)).bind fun t418 => (if t418 = true then (if x10 ≤ (x0.length : Int) then ((slices_Contains_string_string.f k (x0.take (x10 : Int).toNat) (rdOf ByteArray.empty x8 x10)).bind fun t420 => (if t420 = true then (some false) else (impl_pureNames.l0 k x0 x8 x9 (wrap64 (x10 + 1))))) else (none)) else (some false))) else (none)) else (none)) else (some true)
def impl_pureNames.f (k : Nat) (l0 : List ByteArray) : Option (Bool) := if (l0.length : Int) > 60 then (some false) else (impl_pureNames.l0 k l0 l0 (l0.length : Int) 0)
theorem impl_pureNames.mono_l : ∀ k, (∀ y0 y1 y2 y3, LeO (impl_pureNames.l0 k y0 y1 y2 y3) (impl_pureNames.l0 (k + 1) y0 y1 y2 y3))
 | 0 => fun _ _ _ _ r h => by simp [impl_pureNames.l0] at h
 | k + 1 => by
  have ih0 := impl_pureNames.mono_l k
  ·intro y0 y1 y2 y3
   unfold impl_pureNames.l0
   repeat' first
   | (with_reducible exact ih0 _ _ _ _)
   | (with_reducible exact impl_pureName.mono _ _)
   | (with_reducible exact slices_Contains_string_string.mono _ _ _)
   | (with_reducible exact LeO.refl _)
   | (with_reducible exact LeO.none _)
   | (with_reducible refine LeO.ite ?_ ?_)
   | (with_reducible refine LeO.bind ?_ (fun _ => ?_))
   | exact ih0 _ _ _ _
   | exact impl_pureName.mono _ _
   | exact slices_Contains_string_string.mono _ _ _
   | exact LeO.none _
   | refine LeO.ite ?_ ?_
   | refine LeO.bind ?_ (fun _ => ?_)
theorem impl_pureNames.mono : ∀ a0 k, LeO (impl_pureNames.f k a0) (impl_pureNames.f (k + 1) a0) := by
 intro a0 k
 have ih0 := impl_pureNames.mono_l k
 unfold impl_pureNames.f
 repeat' first
   | (with_reducible exact ih0 _ _ _ _)
   | (with_reducible exact impl_pureName.mono _ _)
   | (with_reducible exact slices_Contains_string_string.mono _ _ _)
   | (with_reducible exact LeO.refl _)
   | (with_reducible exact LeO.none _)
   | (with_reducible refine LeO.ite ?_ ?_)
   | (with_reducible refine LeO.bind ?_ (fun _ => ?_))
   | exact ih0 _ _ _ _
   | exact impl_pureName.mono _ _
   | exact slices_Contains_string_string.mono _ _ _
   | exact LeO.none _
   | refine LeO.ite ?_ ?_
   | refine LeO.bind ?_ (fun _ => ?_)
set_option maxHeartbeats 8000000 in
set_option maxRecDepth 100000 in
theorem impl_pureNames.calls (k : Nat) (A0 : Option Addr) (c0 : Nat) (l0 : List ByteArray) (r : Bool) (w : World) (hr0 : Kd.C Kd.string w A0 l0.length l0) (hc0 : l0.length ≤ c0) (h : impl_pureNames.f k l0 = some r) :
  Calls Try.prog 23 #[.slice A0 l0.length c0] w fun e w' => e = .returned (.bool r) ∧ Drawn0 w w' := by
 have HR0 := Aside0.mk hr0
 have HC0 := Aside0.mk hc0
 clear hr0 hc0
 have H : (if (l0.length : Int) > 60 then (some false) else (impl_pureNames.l0 k l0 l0 (l0.length : Int) 0)) = some r := h
 clear h
 by_cases c2 : (l0.length : Int) > 60
 ·rw [if_pos c2] at H
  have c2b0 : decide (60 < (l0.length : Int)) = true := decide_eq_true c2
  have c2b1 : decide (60 < l0.length) = true := decide_eq_true (by omega)
  clear c2
  obtain rfl := Option.some.inj H
  go_enter Try.func23, Try.ntmps23
  go_wp2
  go_ret
  exact ⟨y7, y12⟩
 ·rw [if_neg c2] at H
  have c2b0 : decide (60 < (l0.length : Int)) = false := decide_eq_false c2
  have c2b1 : decide (60 < l0.length) = false := decide_eq_false (by omega)
  clear c2
  have H' := Aside0.mk H
  clear H
  go_enter Try.func23, Try.ntmps23
  go_wp2
  go_loopg [10] k (fun kq v10 w' => ∃ (x10_1 : Int), v10 = .int .i64 x10_1 ∧ Aside0 (impl_pureNames.l0 kq l0 l0 (l0.length : Int) x10_1 = some r) ∧ Aside0 (kq ≤ k) ∧ Drawn0 w w')
  case atStart => exact ⟨(0), y7, H', ⟨Nat.le_refl _⟩, y12⟩
  case round =>
   clear H'
   try clear c2
   try clear c2b0
   try clear c2b1
   try clear p2
   obtain ⟨x10_1, rfl, HA, HK1, ⟨m1, rfl⟩⟩ := hrel
   cases gk with
   | zero => exact absurd HA.out (by simp [impl_pureNames.l0])
   | succ k1 =>
    have H := HA.out
    clear HA
    simp only [impl_pureNames.l0] at H
    by_cases c3 : x10_1 < (l0.length : Int)
    ·rw [if_pos c3] at H
     have c3b0 : decide (x10_1 < (l0.length : Int)) = true := decide_eq_true c3
     clear c3
     by_cases c4 : 0 ≤ x10_1
     ·rw [if_pos c4] at H
      have c4b0 : decide (0 ≤ x10_1) = true := decide_eq_true c4
      clear c4
      by_cases c5 : x10_1 < (l0.length : Int)
      ·rw [if_pos c5] at H
       have c5b0 : decide (x10_1 < (l0.length : Int)) = true := decide_eq_true c5
       clear c5
       obtain ⟨t418, A60, H⟩ := ob H
       have A6 := Aside0.mk A60
       clear A60
       by_cases c7 : t418 = true
       ·subst c7
        rw [if_pos rfl] at H
        have c8b0 := eq_true (of_decide_eq_true y4 : 0 ≤ x10_1)
        by_cases c9 : x10_1 ≤ (l0.length : Int)
        ·rw [if_pos c9] at H
         have c9b0 := eq_true c9
         have c9b1 : decide (x10_1 ≤ (l0.length : Int)) = true := decide_eq_true c9
         clear c9
         obtain ⟨t420, A100, H⟩ := ob H
         have A10 := Aside0.mk A100
         clear A100
         have HZ11 := Aside0.mk H
         clear H
         have p417 : 0 ≤ (x10_1 : Int) := of_decide_eq_true y4
         have q417 : x10_1 < (l0.length : Int) := of_decide_eq_true y4
         obtain ⟨ad417, e417, hx417_0⟩ := Kd.at_string HR0.out x10_1 p417 q417
         cases e417
         replace p417 := eq_true p417
         replace q417 := eq_true q417
         go_upto_if 24 with (first | ((with_reducible refine gate_callee (f := 22) rfl ?_); refine goesL_ (some 16) rfl rfl Try.func22 (by kernel_rfl) rfl #[.string (rdOf ByteArray.empty l0 x10_1)] rfl y3 ?_; (with_reducible refine (impl_pureName.calls k1 (rdOf ByteArray.empty l0 x10_1) true _ A6.out).mono ?_); rintro e w' ⟨rfl, ⟨nd, rfl⟩⟩; refine ⟨_, rfl, ?_⟩; obtain ⟨i012, hi012, _, hsz12, _⟩ := info_parts info9; obtain ⟨hcut12, hA12, hC12⟩ := print_take_of (P := Try.prog) Value.string (⟨#[]⟩ : ByteArray) 31 9 .i64 Try.underlying31 hi012 hsz12 (some ad417) c0 l0 x10_1 (of_decide_eq_true y4) (of_decide_eq_true y4) HC0.out; have HR419 := Aside0.mk (Kd.C_of_reads (h1 := fun _ => rfl) (hA12 _ (Kd.reads_of_C HR0.out))); have HC419 := Aside0.mk hC12; clear hA12 hC12 hi012 hsz12) | (go_at_call 39; refine calls_of_args (args' := #[.slice (some ad417) (l0.take (x10_1 : Int).toNat).length c0, .string (rdOf ByteArray.empty l0 x10_1)]) (by first | (simp; done) | (simp; have h0_ : (x10_1 : Int) ≤ (l0.length : Int) := of_decide_eq_true y4; omega) | rfl) ?_; (with_reducible refine (slices_Contains_string_string.calls k1 _ _ (l0.take (x10_1 : Int).toNat) (rdOf ByteArray.empty l0 x10_1) t420 _ ?side1 ?side2 A10.out).mono ?_); (case side1 => exact y24 HR419.out); (case side2 => exact HC419.out); rintro e w' ⟨rfl, ⟨nd, rfl⟩⟩))
         (try simp only [Act.put, List.setIfInBounds_toArray, List.set_cons_zero, List.set_cons_succ])
         have H := HZ11.out
         clear HZ11
         by_cases c13 : t420 = true
         ·subst c13
          rw [if_pos rfl] at H
          obtain rfl := Option.some.inj H
          go_wp2
          go_ret
          exact ⟨y7, y12⟩
         ·replace c13 := Bool.eq_false_iff.mpr c13
          subst c13
          rw [if_neg (show ¬ (false = true) by decide)] at H
          have H' := Aside0.mk H
          clear H
          go_wp2
          go_roundg k1
          case measure => have := HK1.out; omega
          case rel => exact ⟨(wrap64 (x10_1 + 1)), y7, H', ⟨(y30 HK1.out)⟩, y12⟩
        ·rw [if_neg c9] at H
         exact absurd H (by simp)
       ·replace c7 := Bool.eq_false_iff.mpr c7
        subst c7
        rw [if_neg (show ¬ (false = true) by decide)] at H
        obtain rfl := Option.some.inj H
        have p417 : 0 ≤ (x10_1 : Int) := of_decide_eq_true y4
        have q417 : x10_1 < (l0.length : Int) := of_decide_eq_true y4
        obtain ⟨ad417, e417, hx417_0⟩ := Kd.at_string HR0.out x10_1 p417 q417
        cases e417
        replace p417 := eq_true p417
        replace q417 := eq_true q417
        go_wp2_with (first | ((with_reducible refine gate_callee (f := 22) rfl ?_); refine goesL_ (some 16) rfl rfl Try.func22 (by kernel_rfl) rfl #[.string (rdOf ByteArray.empty l0 x10_1)] rfl y3 ?_; (with_reducible refine (impl_pureName.calls k1 (rdOf ByteArray.empty l0 x10_1) false _ A6.out).mono ?_); rintro e w' ⟨rfl, ⟨nd, rfl⟩⟩; refine ⟨_, rfl, ?_⟩))
        go_ret
        exact ⟨y7, y12⟩
      ·rw [if_neg c5] at H
       exact absurd H (by simp)
     ·rw [if_neg c4] at H
      exact absurd H (by simp)
    ·rw [if_neg c3] at H
     have c3b0 : decide (x10_1 < (l0.length : Int)) = false := decide_eq_false c3
     clear c3
     obtain rfl := Option.some.inj H
     go_wp2
     go_ret
     exact ⟨y7, y12⟩
end Go.Proofs.Ytdgpegkgelciaaa.PA
end
section
namespace Go.Proofs.Ytdgpegkgelciaaa.PA
open Go.RowKit Go.MapKept Go.Proofs.YtdgpegkgelciaaaW.PrintWords Go.Proofs.YtdgpegkgelciaaaW.PrintLast Go.Proofs.YtdgpegkgelciaaaW.PrintMore
def okW (tk : List ByteArray → S78 → Bool) (ahead : List S45) (rec : List ByteArray → S43 → Bool) (l : List ByteArray) (b : S64) : Bool :=
  if b.f0 = 1 then nB b.f4.f0.length b.f4.f1.length && nB b.f5.f0.length b.f5.f1.length && sB b.f2 && (oB b.f1.length && oB b.f3.length && b.f3.all (tk l))
  else if b.f0 = 2 then nB b.f4.f0.length b.f4.f1.length && nB b.f5.f0.length b.f5.f1.length && ((pfind ahead b.f2).2 && qB b.f3.length (pfind ahead b.f2).1.f1.length && qB b.f1.length (pfind ahead b.f2).1.f2.f1.length && b.f3.all (tk l))
  else if b.f0 = 3 then sB b.f2 && (oB b.f3.length && b.f3.all (tk l) && qB b.f1.length b.f4.f1.length && qB b.f1.length b.f5.f1.length && rec l b.f4 && rec l b.f5)
  else false
def BodyOk (rec : List ByteArray → S43 → Bool) (d : Int) (AA : Option Addr) (cA : Nat) (ahead : List S45) : Prop := ∀ (m : Mp) (bd : S43) (A0 A1 : Option Addr) (c0 c1 : Nat) (W : World), HfM m W → Kd.C k45 W AA ahead.length ahead → Kd.C k64 W A0 bd.f0.length bd.f0 → bd.f0.length ≤ c0 → Kd.C k78 W A1 bd.f1.length bd.f1 → bd.f1.length ≤ c1 →
  Calls Try.prog 25 #[.agg #[.slice AA ahead.length cA, .map (some m.a)], .agg #[.slice A0 bd.f0.length c0, .slice A1 bd.f1.length c1], .int .i64 d] W fun e w' => e = .returned (.bool (rec m.l bd)) ∧ Below W.heap.size W w'
theorem binding_calls {tk : List ByteArray → S78 → Bool} (htk : TkOk tk) {rec : List ByteArray → S43 → Bool} {d : Int} (hd : 0 ≤ d ∧ d ≤ 6) {AA : Option Addr} {cA : Nat} {ahead : List S45} (h10 : ahead.length ≤ 10) (hrec : BodyOk rec (d + 1) AA cA ahead) (m : Mp) (b : S64) {A1 A3 A4 A5 A6 A7 : Option Addr} {c1 c3 c4 c5 c6 c7 : Nat} (w : World)
    (hm : HfM m w) (ha : Kd.C k45 w AA ahead.length ahead) (h3 : Kd.C k78 w A3 b.f3.length b.f3) (h4 : Kd.C k64 w A4 b.f4.f0.length b.f4.f0) (l4 : b.f4.f0.length ≤ c4) (h5 : Kd.C k78 w A5 b.f4.f1.length b.f4.f1) (l5 : b.f4.f1.length ≤ c5) (h6 : Kd.C k64 w A6 b.f5.f0.length b.f5.f0) (l6 : b.f5.f0.length ≤ c6) (h7 : Kd.C k78 w A7 b.f5.f1.length b.f5.f1) (l7 : b.f5.f1.length ≤ c7) :
    Calls Try.prog 41 #[.agg #[.slice AA ahead.length cA, .map (some m.a)], .agg #[.int .i64 b.f0, .slice A1 b.f1.length c1, .string b.f2, .slice A3 b.f3.length c3, .slice A4 b.f4.f0.length c4, .slice A5 b.f4.f1.length c5, .slice A6 b.f5.f0.length c6, .slice A7 b.f5.f1.length c7], .int .i64 d] w
      fun e w' => e = .returned (.bool (okW tk ahead rec m.l b)) ∧ Below w.heap.size w w' := by
  obtain ⟨kd, ns, fn, ts, th, el⟩ := b
  have HT : Aside0 (∀ W, Below w.heap.size w W → Calls Try.prog 42 #[.agg #[.slice AA ahead.length cA, .map (some m.a)], .slice A3 ts.length c3] W fun e w' => e = .returned (.bool (ts.all (tk m.l))) ∧ Below W.heap.size W w') :=
    ⟨fun W hb => terms_calls tk htk m _ A3 c3 ts W (hm.gd hb) (Kd.C_below h3 hb)⟩
  unfold okW
  by_cases k1 : kd = 1
  · subst k1
    rw [if_pos rfl]
    exact binding1 _ m _ A1 A3 A4 A5 A6 A7 c1 c3 c4 c5 c6 c7 d fn ns.length ts.length _ _ _ _ w HT
  · rw [if_neg k1]
    by_cases k2 : kd = 2
    · subst k2
      rw [if_pos rfl]
      refine binding2 _ m _ A1 A3 A4 A5 A6 A7 c1 c3 c4 c5 c6 c7 d fn ns.length ts.length _ _ _ _ w HT (pfind ahead fn).2 (pfind ahead fn).1.f0 (pfind ahead fn).1.f1.length (pfind ahead fn).1.f2.f0.length (pfind ahead fn).1.f2.f1.length ⟨fun W hb => ?_⟩
      exact find_calls AA cA ahead fn W (Kd.C_below ha hb) h10
    · rw [if_neg k2]
      by_cases k3 : kd = 3
      · subst k3
        rw [if_pos rfl]
        exact binding3 _ _ _ m _ A1 A3 A4 A5 A6 A7 c1 c3 c4 c5 c6 c7 d fn ns.length ts.length _ _ _ _ w HT hd ⟨fun W hb => hrec m th A4 A5 c4 c5 W (hm.gd hb) (Kd.C_below ha hb) (Kd.C_below h4 hb) l4 (Kd.C_below h5 hb) l5⟩ ⟨fun W hb => hrec m el A6 A7 c6 c7 W (hm.gd hb) (Kd.C_below ha hb) (Kd.C_below h6 hb) l6 (Kd.C_below h7 hb) l7⟩
      · rw [if_neg k3]
        exact binding0 m _ A1 A3 A4 A5 A6 A7 c1 c3 c4 c5 c6 c7 d fn ns.length ts.length _ _ _ _ w kd k1 k2 k3
def PnOk (pn : List ByteArray → Bool) : Prop := ∀ l, ∃ k, impl_pureNames.f k l = some (pn l)
def okBinds (pn : List ByteArray → Bool) (step : List ByteArray → S64 → Bool) : List ByteArray → List S64 → Option (List ByteArray)
  | l, [] => some l
  | l, b :: bs => if pn b.f1 && step l b then okBinds pn step (b.f1.foldl nadd l) bs else none
def okSays (tk : List ByteArray → S78 → Bool) (ts : List S78) : Option (List ByteArray) → Bool
  | some l => ts.all (tk l)
  | none => false
def okBody (tk : List ByteArray → S78 → Bool) (pn : List ByteArray → Bool) (ahead : List S45) : Nat → List ByteArray → S43 → Bool
  | 0, _, _ => false
  | n + 1, l, b => decide (b.f0.length ≤ 400) && decide (b.f1.length ≤ 60) && okSays tk b.f1 (okBinds pn (okW tk ahead (okBody tk pn ahead n)) l b.f0)
def Inner (w : World) (v : Value) (l : List ByteArray) (W0 : World) (g a : Nat) (W : World) : Prop :=
  w.heap.size + 2 ≤ g ∧ w.heap.size + 2 ≤ a ∧ g ≠ a ∧ W.heap[g]? = some (.cells #[v, .map (some a)] 55 (0, 0)) ∧ HfM ⟨a, l⟩ W ∧ Below (w.heap.size + 2) W0 W
theorem inner1 {w W0 w2 : World} {l : List ByteArray} (v : Value) (h0 : W0.heap.size = w.heap.size + 2) (hb : Below W0.drew.heap.size W0.drew w2) (hm : HfM ⟨W0.drew.heap.size, l⟩ w2) :
    Inner w v l W0 w2.heap.size (w.heap.size + 1 + 1) (w2.alloc (.cells #[v, .map (some (w.heap.size + 1 + 1))] 55)) := by
  have e : W0.drew.heap.size = w.heap.size + 1 + 1 := h0
  have hs : w.heap.size + 2 ≤ w2.heap.size := by have := hb.size; omega
  have ht := hm.lt
  refine ⟨hs, Nat.le_refl _, ?_, blk_new _ _, ?_, ?_⟩
  · simp only at ht; omega
  · rw [← e]; exact MapIs.alloc hm _
  · exact Below.alloc ((Below.drew (Below.refl (w.heap.size + 2) W0)).trans (hb.mono (by omega))) hs _
theorem inner2 {w W0 w2 : World} {l : List ByteArray} (v z0 z1 : Value) (h0 : W0.heap.size = w.heap.size + 2) (hb : Below (W0.drew.alloc (.cells #[z0, z1] 55)).heap.size (W0.drew.alloc (.cells #[z0, z1] 55)) w2) (hm : HfM ⟨(W0.drew.alloc (.cells #[z0, z1] 55)).heap.size, l⟩ w2) :
    Inner w v l W0 (w.heap.size + 1 + 1) (w.heap.size + 1 + 1 + 1) ((w2.setCell ⟨w.heap.size + 1 + 1, 0, none⟩ v).setCell ⟨w.heap.size + 1 + 1, 1, none⟩ (.map (some (w.heap.size + 1 + 1 + 1)))) := by
  have e0 : W0.drew.heap.size = w.heap.size + 1 + 1 := h0
  have e : (W0.drew.alloc (.cells #[z0, z1] 55)).heap.size = w.heap.size + 1 + 1 + 1 := by rw [World.size_alloc, e0]
  have hk : w2.heap[w.heap.size + 1 + 1]? = some (.cells #[z0, z1] 55 (0, 0)) := by
    have h := blk_below (blk_new W0.drew (.cells #[z0, z1] 55)) hb
    rwa [e0] at h
  have hB : Below (w.heap.size + 2) W0 w2 := (Below.alloc (Below.drew (Below.refl (w.heap.size + 2) W0)) (by omega) _).trans (hb.mono (by omega))
  refine ⟨Nat.le_refl _, by omega, by omega, ?_, ?_, Below.setCell (Below.setCell hB (Nat.le_refl _) _) (Nat.le_refl _) _⟩
  · exact blk_set (blk_set hk 0 _) 1 _
  · obtain ⟨es, clock, h1, h2⟩ := hm
    rw [e] at h1
    exact ⟨es, clock, (Below.heap_setCell _ _ _ _ (by simp)).trans ((Below.heap_setCell _ _ _ _ (by simp)).trans h1), h2⟩
theorem inner_below {w W0 wr : World} {v : Value} {l : List ByteArray} {g a : Nat} (h : Inner w v l W0 g a wr) (h0 : Below w.heap.size w W0) : Below w.heap.size w wr := h0.trans (h.2.2.2.2.2.mono (Nat.le_add_right _ 2))
theorem inner_step {w W0 wr W w3 : World} {v : Value} {l l2 : List ByteArray} {g a : Nat} (h : Inner w v l W0 g a wr) (h0 : w.heap.size + 2 ≤ W0.heap.size) (hb : Below wr.heap.size wr W) (hm : HfM ⟨a, l2⟩ w3) (hg : W.grownBy w3 (some a)) : Inner w v l2 W0 g a w3 := by
  obtain ⟨h1, h2, h3, h4, h5, h6⟩ := h
  have hs := Nat.le_trans h0 h6.size
  refine ⟨h1, h2, h3, blk_grown (blk_below h4 hb) hg (by simpa using h3), hm, Below.grown (h6.trans (hb.mono hs)) hg (Nat.le_trans hs hb.size) ?_⟩
  intro k hk
  injection hk with hk
  omega
theorem okBinds_yes {pn step} {l : List ByteArray} {b : S64} {bs : List S64} (h1 : pn b.f1 = true) (h2 : step l b = true) : okBinds pn step l (b :: bs) = okBinds pn step (b.f1.foldl nadd l) bs := by rw [okBinds, h1, h2]; rfl
theorem okBinds_no1 {pn step} {l : List ByteArray} {b : S64} {bs : List S64} (h1 : pn b.f1 = false) : okBinds pn step l (b :: bs) = none := by rw [okBinds, h1]; rfl
theorem okBinds_no2 {pn step} {l : List ByteArray} {b : S64} {bs : List S64} (h2 : step l b = false) : okBinds pn step l (b :: bs) = none := by rw [okBinds, h2, Bool.and_false]; rfl
theorem bcellC {W w1 : World} (hb : Below W.heap.size W w1) (b : Nat) : (b < W.heap.size → ∀ o, w1.cell? ⟨b, o, none⟩ = W.cell? ⟨b, o, none⟩) ∧ (b < W.heap.size → ∀ o, w1.frozen? ⟨b, o, none⟩ = W.frozen? ⟨b, o, none⟩) :=
  ⟨fun h o => hb.cell (p := ⟨b, o, none⟩) h, fun h o => hb.frozen (p := ⟨b, o, none⟩) h⟩
theorem cell2 (w : World) (o : Obj) (cs : Array Value) (t i : Nat) : ((w.alloc o).alloc (.cells cs t)).cell? ⟨w.heap.size + 1, i, none⟩ = cs[i]? := by
  have h := blk_new (w.alloc o) (.cells cs t)
  rw [World.size_alloc] at h
  exact blk_cell h i
section
variable {tk : List ByteArray → S78 → Bool} (htk : TkOk tk) {pn : List ByteArray → Bool} (hpn : PnOk pn) (h60 : ∀ l, pn l = true → l.length ≤ 60) {AA : Option Addr} {cA : Nat} {ahead : List S45} (h10 : ahead.length ≤ 10)
include htk hpn h60 h10
set_option maxHeartbeats 4000000 in
set_option maxRecDepth 100000 in
theorem body_calls : ∀ (n : Nat) (d : Int), d + n = 7 → n ≤ 6 → BodyOk (okBody tk pn ahead n) d AA cA ahead
  | 0, d, hd, _ => by
    intro m bd A0 A1 c0 c1 w _ _ _ _ _ _
    obtain rfl : d = 7 := by omega
    go_enter Try.func25, Try.ntmps25
    go_wp2
    go_ret
    exact ⟨rfl, ((Below.refl _ _).alloc (Nat.le_refl _) _).alloc (by simp) _⟩
  | n + 1, d, hd, hn => by
    intro m bd A0 A1 c0 c1 w hm ha hb0 lb0 hb1 lb1
    have ih := body_calls n (d + 1) (by omega) (by omega)
    have hd6 : decide (6 < d) = false := decide_eq_false (by omega)
    unfold okBody
    by_cases h400 : bd.f0.length ≤ 400
    case neg =>
      have t0 : decide ((400 : Int) < (bd.f0.length : Int)) = true := decide_eq_true (by omega)
      have t1 : decide (400 < bd.f0.length) = true := decide_eq_true (by omega)
      go_enter Try.func25, Try.ntmps25
      go_wp2
      go_ret
      exact ⟨by rw [decide_eq_false h400]; rfl, ((Below.refl _ _).alloc (Nat.le_refl _) _).alloc (by simp) _⟩
    have t0 : decide ((400 : Int) < (bd.f0.length : Int)) = false := decide_eq_false (by omega)
    have t1 : decide (400 < bd.f0.length) = false := decide_eq_false (by omega)
    by_cases h61 : bd.f1.length ≤ 60
    case neg =>
      have s0 : decide ((60 : Int) < (bd.f1.length : Int)) = true := decide_eq_true (by omega)
      have s1 : decide (60 < bd.f1.length) = true := decide_eq_true (by omega)
      go_enter Try.func25, Try.ntmps25
      go_wp2
      go_ret
      exact ⟨by rw [decide_eq_true h400, decide_eq_false h61]; rfl, ((Below.refl _ _).alloc (Nat.le_refl _) _).alloc (by simp) _⟩
    have s0 : decide ((60 : Int) < (bd.f1.length : Int)) = false := decide_eq_false (by omega)
    have s1 : decide (60 < bd.f1.length) = false := decide_eq_false (by omega)
    rw [decide_eq_true h400, decide_eq_true h61, Bool.true_and, Bool.true_and]
    have HM := Aside0.mk hm
    clear hm
    go_enter Try.func25, Try.ntmps25
    go_upto_region 3 with fail
    go_cut [7] from 24 (fun v7 wc => ∃ g a, v7 = .pointer (some ⟨g, 0, none⟩) ∧ Inner w (.slice AA ahead.length cA) m.l ((w.alloc (.cells #[.slice AA ahead.length cA, .map (some m.a)] 55)).alloc (.cells #[.slice A0 bd.f0.length c0, .slice A1 bd.f1.length c1] 43)) g a wc)
    case first =>
      go_region_with (go_at_call 40; refine (clone_calls m _ ?_).mono ?_; (show MapIs _ _ _); (repeat (first | exact HM.out | refine MapIs.drew ?_ | refine MapIs.alloc ?_ _)); rintro e w2 ⟨rfl, hm2, hb2⟩; have hb3 : Below (w.heap.size + 2) _ w2 := (by refine hb2.mono ?_; simp [World.drew]); obtain ⟨hc2, hf2⟩ := bcellN hb3; obtain ⟨hcB, hfB⟩ := bcellC hb2 (w.heap.size + 2); have hz : w.heap.size + 2 ≤ w2.heap.size := Nat.le_trans (by simp [World.drew]) hb2.size; have hz1 : w.heap.size + 1 < w2.heap.size := hz; have hz2 : w.heap.size < w2.heap.size := Nat.lt_of_succ_lt hz1; clear hb3 hz)
      all_goals (go_wp2_with fail; go_meet)
      all_goals first | exact ⟨_, _, rfl, inner1 _ (by simp) hb2 hm2⟩ | exact ⟨_, _, rfl, inner2 _ _ _ (by simp) hb2 hm2⟩
    case rest =>
      obtain ⟨g, a, rfl, HI0⟩ := hcut
      have HI0 := Aside0.mk HI0
      have HW := Aside0.mk (((Below.refl _ w).alloc (Nat.le_refl _) (.cells #[.slice AA ahead.length cA, .map (some m.a)] 55)).alloc (by simp) (.cells #[.slice A0 bd.f0.length c0, .slice A1 bd.f1.length c1] 43))
      have q0 : wc.cell? ⟨w.heap.size + 1, 0, none⟩ = some (.slice A0 bd.f0.length c0) := (HI0.out.2.2.2.2.2.cell (p := ⟨w.heap.size + 1, 0, none⟩) (by simp)).trans (cell2 _ _ _ _ _)
      have HA := Aside0.mk ha
      have HB0 := Aside0.mk hb0
      have HB1 := Aside0.mk hb1
      have IH := Aside0.mk ih
      clear ha hb0 hb1 ih
      have hn0 : bd.f0.length ≤ 400 := h400
      go_wp2
      go_loopg [33] (bd.f0.length + 1) (fun kq v33 w' => ∃ (j : Nat) (l' : List ByteArray), v33 = .int .i64 j ∧ Aside0 (kq + j = bd.f0.length + 1 ∧ j ≤ bd.f0.length) ∧ Aside0 (okBinds pn (okW tk ahead (okBody tk pn ahead n)) m.l bd.f0 = okBinds pn (okW tk ahead (okBody tk pn ahead n)) l' (bd.f0.drop j)) ∧ Aside0 (Inner w (.slice AA ahead.length cA) l' ((w.alloc (.cells #[.slice AA ahead.length cA, .map (some m.a)] 55)).alloc (.cells #[.slice A0 bd.f0.length c0, .slice A1 bd.f1.length c1] 43)) g a w'))
      case atStart => exact ⟨0, m.l, rfl, ⟨rfl, Nat.zero_le _⟩, ⟨rfl⟩, HI0⟩
      case round =>
        obtain ⟨j, l', rfl, HK, HF, HI⟩ := hrel
        have hBw := inner_below HI.out HW.out
        have hgb := HI.out.2.2.2.1
        have hgv : wr.cell? ⟨g, 0, none⟩ = some (.slice AA ahead.length cA) := (blk_cell hgb 0).trans rfl
        have hgm : wr.cell? ⟨g, 1, none⟩ = some (.map (some a)) := (blk_cell hgb 1).trans rfl
        have hgl : g < wr.heap.size := blk_lt hgb
        have hgl1 : g < wr.heap.size + 1 := Nat.lt_succ_of_lt hgl
        have q1 : wr.cell? ⟨w.heap.size + 1, 1, none⟩ = some (.slice A1 bd.f1.length c1) := (HI.out.2.2.2.2.2.cell (p := ⟨w.heap.size + 1, 1, none⟩) (by simp)).trans (cell2 _ _ _ _ _)
        have HBW := Aside0.mk hBw
        clear hBw hgb q0
        cases gk with
        | zero => exact absurd HK.out (by omega)
        | succ k1 =>
          by_cases hj : j < bd.f0.length
          · have d0 : decide ((j : Int) < (bd.f0.length : Int)) = true := decide_eq_true (by omega)
            have d1 : decide (j < bd.f0.length) = true := decide_eq_true hj
            have p0 : 0 ≤ (j : Int) := by omega
            have p1 : (j : Int) < (bd.f0.length : Int) := by omega
            obtain ⟨ad, B1, y1, B3, y3, B4, y4, B5, y5, B6, y6, B7, y7, e, x0, x1, x2, x3, x4, x5, x6, x7, _, i1, _, i3, m4, i4, m5, i5, m6, i6, m7, i7⟩ := at_T64 HB0.out (j : Int) p0 p1
            cases e
            replace x0 := pw_cell_below HBW.out x0
            replace x1 := pw_cell_below HBW.out x1
            replace x2 := pw_cell_below HBW.out x2
            replace x3 := pw_cell_below HBW.out x3
            replace x4 := pw_cell_below HBW.out x4
            replace x5 := pw_cell_below HBW.out x5
            replace x6 := pw_cell_below HBW.out x6
            replace x7 := pw_cell_below HBW.out x7
            simp only [Int.toNat_natCast] at x0 x1 x2 x3 x4 x5 x6 x7
            replace p0 := eq_true p0
            replace p1 := eq_true p1
            have HE0 : Aside0 (bd.f0.drop j = rd_T64 bd.f0 j :: bd.f0.drop (j + 1)) := ⟨by rw [List.drop_eq_getElem_cons hj]; simp [rd_T64, hj]⟩
            have HX := Aside0.mk ((Below.refl wr.heap.size wr).alloc (Nat.le_refl _) (.cells #[.int .i64 (rd_T64 bd.f0 j).f0, .slice B1 (rd_T64 bd.f0 j).f1.length y1, .string (rd_T64 bd.f0 j).f2, .slice B3 (rd_T64 bd.f0 j).f3.length y3, .slice B4 (rd_T64 bd.f0 j).f4.f0.length y4, .slice B5 (rd_T64 bd.f0 j).f4.f1.length y5, .slice B6 (rd_T64 bd.f0 j).f5.f0.length y6, .slice B7 (rd_T64 bd.f0 j).f5.f1.length y7] 64))
            have HP : Aside0 (∀ W, Below wr.heap.size wr W → Calls Try.prog 23 #[.slice B1 (rd_T64 bd.f0 j).f1.length y1] W fun e w' => e = .returned (.bool (pn (rd_T64 bd.f0 j).f1)) ∧ Drawn0 W w') := ⟨fun W hb => by
              obtain ⟨k, hk⟩ := hpn (rd_T64 bd.f0 j).f1
              exact impl_pureNames.calls k B1 y1 _ _ W (Kd.C_below i1 (below_step HBW.out hb)) (by assumption) hk⟩
            have HQ : Aside0 (∀ W, Below wr.heap.size wr W → Calls Try.prog 41 #[.agg #[.slice AA ahead.length cA, .map (some a)], .agg #[.int .i64 (rd_T64 bd.f0 j).f0, .slice B1 (rd_T64 bd.f0 j).f1.length y1, .string (rd_T64 bd.f0 j).f2, .slice B3 (rd_T64 bd.f0 j).f3.length y3, .slice B4 (rd_T64 bd.f0 j).f4.f0.length y4, .slice B5 (rd_T64 bd.f0 j).f4.f1.length y5, .slice B6 (rd_T64 bd.f0 j).f5.f0.length y6, .slice B7 (rd_T64 bd.f0 j).f5.f1.length y7], .int .i64 d] W fun e w' => e = .returned (.bool ((okW tk ahead (okBody tk pn ahead n)) l' (rd_T64 bd.f0 j))) ∧ Below W.heap.size W w') := ⟨fun W hb => by
              have hW := below_step HBW.out hb
              exact binding_calls htk ⟨by omega, by omega⟩ h10 IH.out ⟨a, l'⟩ (rd_T64 bd.f0 j) W (HfM.gd HI.out.2.2.2.2.1 hb) (Kd.C_below HA.out hW) (Kd.C_below i3 hW) (Kd.C_below i4 hW) m4 (Kd.C_below i5 hW) m5 (Kd.C_below i6 hW) m6 (Kd.C_below i7 hW) m7⟩
            have HD : Aside0 (pn (rd_T64 bd.f0 j).f1 = true → ∀ W, Below wr.heap.size wr W → Calls Try.prog 24 #[.agg #[.slice AA ahead.length cA, .map (some a)], .slice B1 (rd_T64 bd.f0 j).f1.length y1] W fun e w' => e = .returned (.tuple #[]) ∧ HfM ⟨a, (rd_T64 bd.f0 j).f1.foldl nadd l'⟩ w' ∧ W.grownBy w' (some a)) := ⟨fun hp W hb =>
              bind_calls ⟨a, l'⟩ _ B1 y1 _ W (HfM.gd HI.out.2.2.2.2.1 hb) (Kd.C_below i1 (below_step HBW.out hb)) (h60 _ hp)⟩
            clear i1 i3 i4 i5 i6 i7 m4 m5 m6 m7
            cases hp : pn (rd_T64 bd.f0 j).f1 with
            | false =>
              rw [hp] at HP
              have HV : Aside0 (okBinds pn (okW tk ahead (okBody tk pn ahead n)) m.l bd.f0 = none) := ⟨by rw [HF.out, HE0.out, okBinds_no1 hp]⟩
              clear HF HE0 hp HQ HD
              go_wp2_with (go_at_call 23; (with_reducible refine (HP.out _ HX.out).mono ?_); rintro e w2 ⟨rfl, nd, rfl⟩; replace HX := Aside0.mk (pw_below_drewN HX.out nd))
              go_ret
              exact ⟨by rw [HV.out]; rfl, below_step HBW.out HX.out⟩
            | true =>
              rw [hp] at HP
              replace HD := Aside0.mk (HD.out hp)
              cases hq : (okW tk ahead (okBody tk pn ahead n)) l' (rd_T64 bd.f0 j) with
              | false =>
                rw [hq] at HQ
                have HV : Aside0 (okBinds pn (okW tk ahead (okBody tk pn ahead n)) m.l bd.f0 = none) := ⟨by rw [HF.out, HE0.out, okBinds_no2 hq]⟩
                clear HF HE0 hp hq
                go_wp2_with (first | (go_at_call 23; (with_reducible refine (HP.out _ HX.out).mono ?_); rintro e w2 ⟨rfl, nd, rfl⟩; replace HX := Aside0.mk (pw_below_drewN HX.out nd)) | (go_at_call 41; (with_reducible refine (HQ.out _ HX.out).mono ?_); rintro e w2 ⟨rfl, hb2⟩; replace HX := Aside0.mk (below_step HX.out hb2)))
                go_ret
                exact ⟨by rw [HV.out]; rfl, below_step HBW.out HX.out⟩
              | true =>
                rw [hq] at HQ
                have HV : Aside0 (okBinds pn (okW tk ahead (okBody tk pn ahead n)) m.l bd.f0 = okBinds pn (okW tk ahead (okBody tk pn ahead n)) ((rd_T64 bd.f0 j).f1.foldl nadd l') (bd.f0.drop (j + 1))) := ⟨by rw [HF.out, HE0.out, okBinds_yes hp hq]⟩
                clear HF HE0 hp hq
                go_wp2_with (first | (go_at_call 23; (with_reducible refine (HP.out _ HX.out).mono ?_); rintro e w2 ⟨rfl, nd, rfl⟩; replace HX := Aside0.mk (pw_below_drewN HX.out nd)) | (go_at_call 41; (with_reducible refine (HQ.out _ HX.out).mono ?_); rintro e w2 ⟨rfl, hb2⟩; replace HX := Aside0.mk (below_step HX.out hb2); have hb3 : Below (wr.heap.size + 1) _ w2 := (by refine hb2.mono ?_; simp [World.drewN]); obtain ⟨hc2, hf2⟩ := bcellN hb3; clear hb3) | (go_at_call 24; (with_reducible refine (HD.out _ HX.out).mono ?_); rintro e w3 ⟨rfl, hm3, hg3⟩; have HS := Aside0.mk (inner_step HI.out (by simp) HX.out hm3 hg3); clear hm3 hg3))
                go_roundg k1
                case measure => omega
                case rel => exact ⟨j + 1, _, by first | simp | (rw [w64 _ (by omega)]; simp), ⟨by have := HK.out; omega, hj⟩, HV, HS⟩
          · have d0 : decide ((j : Int) < (bd.f0.length : Int)) = false := decide_eq_false (by omega)
            have d1 : decide (j < bd.f0.length) = false := decide_eq_false hj
            have HT : Aside0 (Calls Try.prog 42 #[.agg #[.slice AA ahead.length cA, .map (some a)], .slice A1 bd.f1.length c1] wr fun e w' => e = .returned (.bool (bd.f1.all (tk l'))) ∧ Below wr.heap.size wr w') := ⟨terms_calls tk htk ⟨a, l'⟩ _ A1 c1 _ wr HI.out.2.2.2.2.1 (Kd.C_below HB1.out HBW.out)⟩
            have HV : Aside0 (okBinds pn (okW tk ahead (okBody tk pn ahead n)) m.l bd.f0 = some l') := ⟨by rw [HF.out, List.drop_eq_nil_of_le (by omega), okBinds]⟩
            clear HF
            go_wp2_with (go_at_call 42; (with_reducible refine HT.out.mono ?_); rintro e w2 ⟨rfl, hb2⟩)
            go_ret
            exact ⟨by rw [HV.out]; rfl, below_step HBW.out hb2⟩
end
end Go.Proofs.Ytdgpegkgelciaaa.PA
end
section
namespace Go.Proofs.Ytdgpegkgelciaaa.PA
open Go.RowKit Go.MapKept Go.Proofs.YtdgpegkgelciaaaW.PrintWords Go.Proofs.YtdgpegkgelciaaaW.PrintLast Go.Proofs.YtdgpegkgelciaaaW.PrintMore
def PwOk (pw : ByteArray → Bool) : Prop := ∀ s, ∃ k, impl_pureName.f k s = some (pw s)
def okAt (tk : List ByteArray → S78 → Bool) (pn : List ByteArray → Bool) (pw : ByteArray → Bool) (l : List S45) (i : Nat) : Bool :=
  !(pfind (l.take i) (rd_T45 l i).f0).2 && pw (rd_T45 l i).f0 && pn (rd_T45 l i).f1 && okBody tk pn (l.take i) 6 ((rd_T45 l i).f1.foldl nadd []) (rd_T45 l i).f2
def okFrom (tk : List ByteArray → S78 → Bool) (pn : List ByteArray → Bool) (pw : ByteArray → Bool) (l : List S45) (i : Nat) : Bool := (List.range' i (l.length - i)).all (okAt tk pn pw l)
def okPure (tk : List ByteArray → S78 → Bool) (pn : List ByteArray → Bool) (pw : ByteArray → Bool) (l : List S45) : Bool := decide (l.length ≤ 10) && okFrom tk pn pw l 0
theorem okFrom_end {tk pn pw} {l : List S45} {i : Nat} (h : ¬ i < l.length) : okFrom tk pn pw l i = true := by
  unfold okFrom
  rw [show l.length - i = 0 by omega]
  rfl
theorem okFrom_step {tk pn pw} {l : List S45} {i : Nat} (h : i < l.length) : okFrom tk pn pw l i = (okAt tk pn pw l i && okFrom tk pn pw l (i + 1)) := by
  unfold okFrom
  rw [show l.length - i = (l.length - (i + 1)) + 1 by omega, List.range'_succ, List.all_cons]
theorem slice_h (A : Option Addr) (n c j : Nat) (h : j ≤ c) (W : World) : (Instr.slice 25 (.slice A n c) none (some (.int .i64 (j : Int))) none).run Try.prog W = .ok (.slice A j c) W := by
  obtain ⟨i0, hi0, _, hsz, _⟩ := info_parts info45
  have hel : Try.prog.elem 25 = 45 := by simp [Program.elem, Try.underlying25]
  have hu : Try.prog.underlying 25 = some (.slice (Try.prog.elem 25)) := by rw [hel]; exact Try.underlying25
  have ha : (A.map fun x => x.add 0) = A := by cases A <;> simp [Addr.add]
  rw [run_slice_h W 25 A n c hu .i64 j (by omega) (by omega), hel]
  simp [sizeOf, typeInfo, hi0, hsz, sliced, Result.andThen, ha]
theorem bind_after {wc w3 : World} {n : Nat} {v : Value} (hg : (((wc.drewN n).alloc (.map #[] 0)).alloc (.cells #[v, .map (some wc.heap.size)] 55)).grownBy w3 (some wc.heap.size)) : Below wc.heap.size wc w3 ∧ w3.heap[wc.heap.size + 1]? = some (.cells #[v, .map (some wc.heap.size)] 55 (0, 0)) := by
  have h1 : ((wc.drewN n).alloc (.map #[] 0)).heap.size = wc.heap.size + 1 := World.size_alloc _ _
  refine ⟨Below.grown (alN (alN (pw_below_drewN (Below.refl _ _) n) (Nat.le_refl _) _) (Nat.le_refl _) _) hg (by rw [World.size_alloc, h1]; omega) (fun k hk => by injection hk with hk; omega), ?_⟩
  have h := blk_grown (blk_new ((wc.drewN n).alloc (.map #[] 0)) (.cells #[v, .map (some wc.heap.size)] 55)) hg (by rw [h1]; simp)
  rwa [h1] at h
theorem size_drew (w : World) : w.drew.heap.size = w.heap.size := rfl
section
variable {tk : List ByteArray → S78 → Bool} (htk : TkOk tk) {pn : List ByteArray → Bool} (hpn : PnOk pn) (h60 : ∀ l, pn l = true → l.length ≤ 60) {pw : ByteArray → Bool} (hpw : PwOk pw)
include htk hpn h60 hpw
set_option maxHeartbeats 4000000 in
set_option maxRecDepth 100000 in
theorem pure_calls (A : Option Addr) (c : Nat) (l : List S45) (w : World) (hr : Kd.C k45 w A l.length l) (hc : l.length ≤ c) :
    Calls Try.prog 9 #[.slice A l.length c] w fun e w' => e = .returned (.bool (okPure tk pn pw l)) ∧ Below w.heap.size w w' := by
  have hu45 := Try.underlying45
  have hu43 := Try.underlying43
  have hu25 := Try.underlying25
  have hu55 := Try.underlying55
  have hmm := @run_makeMap_plain Try.prog
  unfold okPure
  by_cases h10 : l.length ≤ 10
  case neg =>
    have t0 : decide ((10 : Int) < (l.length : Int)) = true := decide_eq_true (by omega)
    have t1 : decide (10 < l.length) = true := decide_eq_true (by omega)
    go_enter Try.func9, Try.ntmps9
    go_wp2
    go_ret
    exact ⟨by rw [decide_eq_false h10]; rfl, Below.refl _ _⟩
  have t0 : decide ((10 : Int) < (l.length : Int)) = false := decide_eq_false (by omega)
  have t1 : decide (10 < l.length) = false := decide_eq_false (by omega)
  rw [decide_eq_true h10, Bool.true_and]
  have HR := Aside0.mk hr
  clear hr
  go_enter Try.func9, Try.ntmps9
  go_wp2
  go_loopg [13] (l.length + 1) (fun kq v13 w' => ∃ j : Nat, v13 = .int .i64 j ∧ Aside0 (kq + j = l.length + 1 ∧ j ≤ l.length) ∧ Aside0 (okFrom tk pn pw l 0 = okFrom tk pn pw l j) ∧ Aside0 (Below w.heap.size w w'))
  case atStart => exact ⟨0, rfl, ⟨rfl, Nat.zero_le _⟩, ⟨rfl⟩, ⟨Below.refl _ _⟩⟩
  case round =>
    obtain ⟨j, rfl, HK, HF, HB⟩ := hrel
    cases gk with
    | zero => exact absurd HK.out (by omega)
    | succ k1 =>
      by_cases hj : j < l.length
      · have d0 : decide ((j : Int) < (l.length : Int)) = true := decide_eq_true (by omega)
        have d1 : decide (j < l.length) = true := decide_eq_true hj
        have p0 : 0 ≤ (j : Int) := by omega
        have p1 : (j : Int) < (l.length : Int) := by omega
        have hjc : (j : Int) ≤ (c : Int) := by omega
        obtain ⟨ad, A1, c1, A2, c2, A3, c3, e, x0, x1, x2, x3, m1, i1, m2, i2, m3, i3⟩ := at_T45 HR.out (j : Int) p0 p1
        cases e
        replace x0 := pw_cell_below HB.out x0
        replace x1 := pw_cell_below HB.out x1
        replace x2 := pw_cell_below HB.out x2
        replace x3 := pw_cell_below HB.out x3
        simp only [Int.toNat_natCast] at x0 x1 x2 x3
        replace p0 := eq_true p0
        replace p1 := eq_true p1
        have hcut := slice_h (some ad) l.length c j (by omega)
        have hlt : (l.take j).length = j := by rw [List.length_take]; omega
        have hCt : Kd.C k45 w (some ad) j (l.take j) := by have h := Kd.C_take HR.out (m := j) (by omega); rwa [hlt] at h
        have HF1 : Aside0 (∀ W, Below w.heap.size w W → Calls Try.prog 21 #[.slice (some ad) j c, .string (rd_T45 l j).f0] W fun e w' => (∃ A1 c1 A2 c2 A3 c3, e = .returned (.tuple #[.agg #[.string (pfind (l.take j) (rd_T45 l j).f0).1.f0, .slice A1 (pfind (l.take j) (rd_T45 l j).f0).1.f1.length c1, .slice A2 (pfind (l.take j) (rd_T45 l j).f0).1.f2.f0.length c2, .slice A3 (pfind (l.take j) (rd_T45 l j).f0).1.f2.f1.length c3], .bool (pfind (l.take j) (rd_T45 l j).f0).2])) ∧ Below W.heap.size W w') := ⟨fun W hb => by
          have h := find_calls (some ad) c (l.take j) (rd_T45 l j).f0 W (by rw [hlt]; exact Kd.C_below hCt hb) (by omega)
          rwa [hlt] at h⟩
        clear hlt hCt
        have HX := Aside0.mk ((Below.refl wr.heap.size wr).alloc (Nat.le_refl _) (.cells #[.string (rd_T45 l j).f0, .slice A1 (rd_T45 l j).f1.length c1, .slice A2 (rd_T45 l j).f2.f0.length c2, .slice A3 (rd_T45 l j).f2.f1.length c3] 45))
        go_upto_region 6 with fail
        go_cut [5, 6, 13] from 13 to 54 (fun v5 v6 v13 wc => v6 = .bool (pfind (l.take j) (rd_T45 l j).f0).2 ∧ v13 = .int .i64 (j : Int) ∧ Aside0 (Below (wr.heap.size + 1) (wr.alloc (.cells #[.string (rd_T45 l j).f0, .slice A1 (rd_T45 l j).f1.length c1, .slice A2 (rd_T45 l j).f2.f0.length c2, .slice A3 (rd_T45 l j).f2.f1.length c3] 45)) wc))
        case first =>
          go_region_with (go_at_call 21; refine (HF1.out _ ?_).mono ?_; (first | exact Below.drew (below_step HB.out HX.out) | exact alN (Below.drew (below_step HB.out HX.out)) (Nat.le_refl _) _); rintro e w2 ⟨⟨X1, y1, X2, y2, X3, y3, rfl⟩, hb2⟩; have hb3 : Below (wr.heap.size + 1) _ w2 := (by refine hb2.mono ?_; simp [World.drew]); obtain ⟨hc2, hf2⟩ := bcellN hb3; obtain ⟨hcB, hfB⟩ := bcellC hb2 (wr.heap.size + 1); have hz : wr.heap.size < w2.heap.size := Nat.lt_of_lt_of_le (by simp only [size_drew, World.size_alloc]; omega) hb2.size; have HY := Aside0.mk hb3; clear hb3)
          all_goals (go_wp2_with fail; go_meet)
          all_goals (refine ⟨rfl, rfl, ⟨?_⟩⟩; have hy := HY.out; clear HY)
          all_goals repeat (first | exact (Below.drew (Below.refl _ _)).trans hy | exact (alN (Below.drew (Below.refl _ _)) (by simp) _).trans hy | refine Below.setCell ?_ (by simp) _ | refine alN ?_ (by simp) _)
        case rest =>
          obtain ⟨rfl, rfl, HC⟩ := hcut
          have hWr : Below w.heap.size w wc := below_step HB.out (HX.out.trans (HC.out.mono (Nat.le_succ _)))
          have hgl : wr.heap.size < wc.heap.size := Nat.lt_of_lt_of_le (by simp) HC.out.size
          have b0 : wc.cell? ⟨wr.heap.size, 0, none⟩ = some (.string (rd_T45 l j).f0) := (HC.out.cell (p := ⟨wr.heap.size, 0, none⟩) (by simp)).trans ((blk_cell (blk_new _ _) 0).trans rfl)
          have b1 : wc.cell? ⟨wr.heap.size, 1, none⟩ = some (.slice A1 (rd_T45 l j).f1.length c1) := (HC.out.cell (p := ⟨wr.heap.size, 1, none⟩) (by simp)).trans ((blk_cell (blk_new _ _) 1).trans rfl)
          have b2 : wc.cell? ⟨wr.heap.size, 2, none⟩ = some (.slice A2 (rd_T45 l j).f2.f0.length c2) := (HC.out.cell (p := ⟨wr.heap.size, 2, none⟩) (by simp)).trans ((blk_cell (blk_new _ _) 2).trans rfl)
          have b3 : wc.cell? ⟨wr.heap.size, 3, none⟩ = some (.slice A3 (rd_T45 l j).f2.f1.length c3) := (HC.out.cell (p := ⟨wr.heap.size, 3, none⟩) (by simp)).trans ((blk_cell (blk_new _ _) 3).trans rfl)
          have hgl1 : wr.heap.size < wc.heap.size + 1 := Nat.lt_succ_of_lt hgl
          have b4 : ∀ (n : Nat) (o1 o2 : Obj), (((wc.drewN n).alloc o1).alloc o2).cell? ⟨wr.heap.size, 1, none⟩ = some (.slice A1 (rd_T45 l j).f1.length c1) := fun n o1 o2 => pw_cell_below (alN (alN (pw_below_drewN (Below.refl _ _) n) (Nat.le_refl _) o1) (Nat.le_refl _) o2) b1
          have HW := Aside0.mk hWr
          clear hWr
          have HP : Aside0 (∀ W, Below wc.heap.size wc W → Calls Try.prog 23 #[.slice A1 (rd_T45 l j).f1.length c1] W fun e w' => e = .returned (.bool (pn (rd_T45 l j).f1)) ∧ Drawn0 W w') := ⟨fun W hb => by
            obtain ⟨k, hk⟩ := hpn (rd_T45 l j).f1
            exact impl_pureNames.calls k A1 c1 _ _ W (Kd.C_below i1 (below_step HW.out hb)) m1 hk⟩
          have HN : Aside0 (∀ W, Calls Try.prog 22 #[.string (rd_T45 l j).f0] W fun e w' => e = .returned (.bool (pw (rd_T45 l j).f0)) ∧ Drawn0 W w') := ⟨fun W => by
            obtain ⟨k, hk⟩ := hpw (rd_T45 l j).f0
            exact impl_pureName.calls k _ _ W hk⟩
          have HD : Aside0 (pn (rd_T45 l j).f1 = true → ∀ W a, Below w.heap.size w W → HfM ⟨a, []⟩ W → Calls Try.prog 24 #[.agg #[.slice (some ad) j c, .map (some a)], .slice A1 (rd_T45 l j).f1.length c1] W fun e w' => e = .returned (.tuple #[]) ∧ HfM ⟨a, (rd_T45 l j).f1.foldl nadd []⟩ w' ∧ W.grownBy w' (some a)) := ⟨fun hp W a hb hm =>
            bind_calls ⟨a, []⟩ _ A1 c1 _ W hm (Kd.C_below i1 hb) (h60 _ hp)⟩
          have HQ : Aside0 (∀ W a, Below w.heap.size w W → HfM ⟨a, (rd_T45 l j).f1.foldl nadd []⟩ W → Calls Try.prog 25 #[.agg #[.slice (some ad) j c, .map (some a)], .agg #[.slice A2 (rd_T45 l j).f2.f0.length c2, .slice A3 (rd_T45 l j).f2.f1.length c3], .int .i64 1] W fun e w' => e = .returned (.bool (okBody tk pn (l.take j) 6 ((rd_T45 l j).f1.foldl nadd []) (rd_T45 l j).f2)) ∧ Below W.heap.size W w') := ⟨fun W a hW hm => by
            have hlt : (l.take j).length = j := by rw [List.length_take]; omega
            have h := body_calls htk hpn h60 (AA := some ad) (cA := c) (ahead := l.take j) (by omega) 6 1 (by omega) (by omega) ⟨a, (rd_T45 l j).f1.foldl nadd []⟩ (rd_T45 l j).f2 A2 A3 c2 c3 W hm (Kd.C_below (Kd.C_take HR.out (by omega)) hW) (Kd.C_below i2 hW) m2 (Kd.C_below i3 hW) m3
            rwa [hlt] at h⟩
          clear i1 i2 i3 HX HC HF1
          cases hs : (pfind (l.take j) (rd_T45 l j).f0).2 with
          | true =>
            have HV : Aside0 (okFrom tk pn pw l 0 = false) := ⟨by rw [HF.out, okFrom_step hj, okAt, hs]; rfl⟩
            clear hs HF
            go_wp2
            go_ret
            exact ⟨by rw [HV.out]; rfl, by first | exact HW.out | exact pw_below_drewN HW.out _⟩
          | false =>
            cases hn : pw (rd_T45 l j).f0 with
            | false =>
              have HV : Aside0 (okFrom tk pn pw l 0 = false) := ⟨by rw [HF.out, okFrom_step hj, okAt, hs, hn]; rfl⟩
              rw [hn] at HN
              clear hs hn HF
              go_wp2_with (go_at_call 22; (with_reducible refine (HN.out _).mono ?_); rintro e w2 ⟨rfl, nd, rfl⟩)
              go_ret
              exact ⟨by rw [HV.out]; rfl, by first | exact HW.out | exact pw_below_drewN HW.out _⟩
            | true =>
              rw [hn] at HN
              cases hp : pn (rd_T45 l j).f1 with
              | false =>
                have HV : Aside0 (okFrom tk pn pw l 0 = false) := ⟨by rw [HF.out, okFrom_step hj, okAt, hs, hn, hp]; rfl⟩
                rw [hp] at HP
                clear hs hn hp HF
                go_wp2_with (first | (go_at_call 22; (with_reducible refine (HN.out _).mono ?_); rintro e w2 ⟨rfl, nd, rfl⟩) | (go_at_call 23; (refine (HP.out _ (pw_below_drewN (Below.refl _ _) _)).mono ?_); rintro e w2 ⟨rfl, nd, rfl⟩))
                go_ret
                exact ⟨by rw [HV.out]; rfl, by first | exact HW.out | exact pw_below_drewN HW.out _⟩
              | true =>
                rw [hp] at HP
                replace HD := Aside0.mk (HD.out hp)
                cases hq : okBody tk pn (l.take j) 6 ((rd_T45 l j).f1.foldl nadd []) (rd_T45 l j).f2 with
                | false =>
                  have HV : Aside0 (okFrom tk pn pw l 0 = false) := ⟨by rw [HF.out, okFrom_step hj, okAt, hs, hn, hp, hq]; rfl⟩
                  rw [hq] at HQ
                  clear hs hn hp hq HF
                  go_wp2_with (first | (go_at_call 22; (with_reducible refine (HN.out _).mono ?_); rintro e w2 ⟨rfl, nd, rfl⟩) | (go_at_call 23; (refine (HP.out _ (pw_below_drewN (Below.refl _ _) _)).mono ?_); rintro e w2 ⟨rfl, nd, rfl⟩) | (go_at_call 24; refine (HD.out _ _ ?_ ?_).mono ?_; exact alN (alN (pw_below_drewN HW.out _) (Nat.le_refl _) _) (Nat.le_refl _) _; exact MapIs.alloc (MapIs.made _) _; rintro e w3 ⟨rfl, hm3, hg3⟩; have HM3 := Aside0.mk hm3; obtain ⟨hB3, k7⟩ := bind_after hg3; obtain ⟨hc3, hf3⟩ := bcellN hB3; have z0 := (blk_cell k7 0).trans rfl; have z1 := (blk_cell k7 1).trans rfl; have HB3 := Aside0.mk hB3; clear hB3 k7 hg3 hm3) | (go_at_call 25; refine (HQ.out _ _ ?_ HM3.out).mono ?_; exact below_step HW.out HB3.out; rintro e w4 ⟨rfl, hb4⟩; replace HW := Aside0.mk (below_step (below_step HW.out HB3.out) hb4); clear hb4))
                  go_ret
                  exact ⟨by rw [HV.out]; rfl, HW.out⟩
                | true =>
                  have HV : Aside0 (okFrom tk pn pw l 0 = okFrom tk pn pw l (j + 1)) := ⟨by rw [HF.out, okFrom_step hj, okAt, hs, hn, hp, hq]; rfl⟩
                  rw [hq] at HQ
                  clear hs hn hp hq HF
                  go_wp2_with (first | (go_at_call 22; (with_reducible refine (HN.out _).mono ?_); rintro e w2 ⟨rfl, nd, rfl⟩) | (go_at_call 23; (refine (HP.out _ (pw_below_drewN (Below.refl _ _) _)).mono ?_); rintro e w2 ⟨rfl, nd, rfl⟩) | (go_at_call 24; refine (HD.out _ _ ?_ ?_).mono ?_; exact alN (alN (pw_below_drewN HW.out _) (Nat.le_refl _) _) (Nat.le_refl _) _; exact MapIs.alloc (MapIs.made _) _; rintro e w3 ⟨rfl, hm3, hg3⟩; have HM3 := Aside0.mk hm3; obtain ⟨hB3, k7⟩ := bind_after hg3; obtain ⟨hc3, hf3⟩ := bcellN hB3; have z0 := (blk_cell k7 0).trans rfl; have z1 := (blk_cell k7 1).trans rfl; have HB3 := Aside0.mk hB3; clear hB3 k7 hg3 hm3) | (go_at_call 25; refine (HQ.out _ _ ?_ HM3.out).mono ?_; exact below_step HW.out HB3.out; rintro e w4 ⟨rfl, hb4⟩; replace HW := Aside0.mk (below_step (below_step HW.out HB3.out) hb4); clear hb4))
                  go_roundg k1
                  case measure => omega
                  case rel => exact ⟨j + 1, by simp, ⟨by have := HK.out; omega, hj⟩, HV, HW⟩
      · have d0 : decide ((j : Int) < (l.length : Int)) = false := decide_eq_false (by omega)
        have d1 : decide (j < l.length) = false := decide_eq_false hj
        go_wp2
        go_ret
        exact ⟨by rw [HF.out, okFrom_end hj]; rfl, HB.out⟩
end
end Go.Proofs.Ytdgpegkgelciaaa.PA
end
section
namespace Go.Proofs.Ytdgpegkgelciaaa.PA
open Go.RowKit Go.Proofs.YtdgpegkgelciaaaW.PrintWords Go.Proofs.YtdgpegkgelciaaaW.PrintLast Go.Proofs.YtdgpegkgelciaaaW.PrintMore
def chP (c : Int) : Bool := decide ((97 ≤ c ∧ c ≤ 122) ∨ (65 ≤ c ∧ c ≤ 90) ∨ (48 ≤ c ∧ c ≤ 57) ∨ c = 95)
def pwFrom (s : ByteArray) (i : Nat) : Bool := (List.range' i (s.size - i)).all (fun j => chP (bt s j))
def pwP (s : ByteArray) : Bool := decide (1 ≤ s.size) && decide (s.size ≤ 12) && pwFrom s 0
def pnAt (l : List ByteArray) (i : Nat) : Bool := pwP (rdOf ByteArray.empty l i) && !nhas (l.take i) (rdOf ByteArray.empty l i)
def pnFrom (l : List ByteArray) (i : Nat) : Bool := (List.range' i (l.length - i)).all (pnAt l)
def pnP (l : List ByteArray) : Bool := decide (l.length ≤ 60) && pnFrom l 0
def bitP (x : Int) : Bool := decide (0 ≤ x ∧ x ≤ 1)
def pathP (l : List Int) : Bool := decide (l.length ≤ 4) && l.all bitP
def tkP (b : ByteArray → Bool) : Nat → S78 → Bool
  | 0, _ => false
  | n + 1, t =>
    (if t.f0 = 1 then decide (0 ≤ t.f1 ∧ t.f1 ≤ 9999) && t.f2.toList.isEmpty && t.f3.isEmpty && t.f4.isEmpty
      else if t.f0 = 2 then pwP t.f2 && b t.f2 && decide (t.f1 = 0) && t.f3.isEmpty && t.f4.isEmpty
      else if 3 ≤ t.f0 ∧ t.f0 ≤ 6 then decide (t.f1 = 0) && t.f2.toList.isEmpty && t.f3.isEmpty && decide (t.f4.length = 2)
      else if t.f0 = 7 then pathP t.f3 && decide (t.f1 = 0) && t.f2.toList.isEmpty && decide (t.f4.length = 1)
      else if t.f0 = 8 then pathP t.f3 && decide (t.f1 = 0) && t.f2.toList.isEmpty && decide (t.f4.length = 2)
      else false) && t.f4.all (tkP b n)
def tk8 (l : List ByteArray) (t : S78) : Bool := tkP (nhas l) 8 t
end Go.Proofs.Ytdgpegkgelciaaa.PA
end
section
namespace Go.Proofs.Ytdgpegkgelciaaa.PA
open Go.RowKit Go.Proofs.YtdgpegkgelciaaaW.PrintWords Go.Proofs.YtdgpegkgelciaaaW.PrintLast Go.Proofs.YtdgpegkgelciaaaW.PrintMore
theorem Ev.pos {α : Type} {c : Prop} [Decidable c] {f g : Nat → Option α} {r : α} (h : c) (k : Ev f r) : Ev (fun n => if c then f n else g n) r := by simpa only [if_pos h] using k
theorem Ev.neg {α : Type} {c : Prop} [Decidable c] {f g : Nat → Option α} {r : α} (h : ¬ c) (k : Ev g r) : Ev (fun n => if c then f n else g n) r := by simpa only [if_neg h] using k
theorem Ev.val {α : Type} {a r : α} (h : a = r) : Ev (fun _ => some a) r := h ▸ Ev.now a
theorem Ev.cast {α : Type} {g : Nat → Option α} {r r' : α} (k : Ev g r) (h : r = r') : Ev g r' := h ▸ k
theorem Ev.shift {α : Type} {g : Nat → Option α} {r : α} (k : Ev g r) : Ev (fun n => g (n + 1)) r := by
  obtain ⟨K, k⟩ := k
  exact ⟨K, fun n hn => k _ (by omega)⟩
theorem suc64 (i : Nat) (h : i ≤ 1000000000000) : wrap64 ((i : Int) + 1) = ((i + 1 : Nat) : Int) := by rw [w64 _ (by omega)]; omega
theorem all_end {p : Nat → Bool} {i n : Nat} (h : ¬ i < n) : (List.range' i (n - i)).all p = true := by
  rw [show n - i = 0 by omega]
  rfl
theorem all_step {p : Nat → Bool} {i n : Nat} (h : i < n) : (List.range' i (n - i)).all p = (p i && (List.range' (i + 1) (n - (i + 1))).all p) := by rw [show n - i = (n - (i + 1)) + 1 by omega, List.range'_succ, List.all_cons]
theorem pw_l0 (s : ByteArray) (hs : s.size ≤ 12) : ∀ d i : Nat, i + d = s.size → Ev (fun k => impl_pureName.l0 k s s.size i) (pwFrom s i)
  | 0, i, hi => by
    refine Ev.step (f := fun _ => some true) (fun k => by simp only [impl_pureName.l0]; rw [if_neg (by omega)]) (Ev.val ?_)
    rw [pwFrom, all_end (by omega)]
  | d + 1, i, hi => by
    refine Ev.step (f := fun k => if chP (bt s i) = true then impl_pureName.l0 k s s.size (i + 1 : Nat) else some false) (fun k => ?_) ?_
    · simp only [impl_pureName.l0]
      rw [if_pos (by omega), if_pos (by omega), if_pos (by omega), suc64 i (by omega)]
      generalize impl_pureName.l0 k s s.size (i + 1 : Nat) = L
      generalize bt s i = c
      simp only [chP, decide_eq_true_eq]
      repeat' split
      all_goals first | rfl | omega
    · rw [pwFrom, all_step (by omega)]
      cases h : chP (bt s i) with
      | true => exact Ev.pos rfl (by rw [Bool.true_and]; exact pw_l0 s hs d (i + 1) (by omega))
      | false => exact Ev.neg (by simp) (Ev.val (by simp))
theorem pw_ev (s : ByteArray) : Ev (fun k => impl_pureName.f k s) (pwP s) := by
  unfold pwP
  by_cases h1 : 1 ≤ s.size
  · by_cases h2 : s.size ≤ 12
    · refine Ev.congr (g := fun k => impl_pureName.f k s) (f := fun k => impl_pureName.j0 k s false) (fun k => by rw [impl_pureName.f, if_neg (by omega), decide_eq_false (by omega)]) ?_
      refine Ev.step (f := fun k => impl_pureName.l0 k s s.size (0 : Nat)) (fun k => by simp only [impl_pureName.j0]; rw [if_neg (by simp)]; rfl) ?_
      simpa [h1, h2] using pw_l0 s h2 s.size 0 (by omega)
    · refine Ev.congr (g := fun k => impl_pureName.f k s) (f := fun k => impl_pureName.j0 k s true) (fun k => by rw [impl_pureName.f, if_neg (by omega), decide_eq_true (by omega)]) ?_
      exact Ev.step (f := fun _ => some false) (fun k => by simp only [impl_pureName.j0]; rw [if_pos (by first | trivial | rfl)]) (Ev.val (by simp [h2]))
  · refine Ev.congr (g := fun k => impl_pureName.f k s) (f := fun k => impl_pureName.j0 k s true) (fun k => by rw [impl_pureName.f, if_pos (by omega)]) ?_
    exact Ev.step (f := fun _ => some false) (fun k => by simp only [impl_pureName.j0]; rw [if_pos (by first | trivial | rfl)]) (Ev.val (by simp [h1]))
theorem pwP_ok : PwOk pwP := fun s => (pw_ev s).rounds
theorem ba_tl {a b : ByteArray} : a.toList = b.toList ↔ a = b := by
  rw [ByteArray.toList_eq, ByteArray.toList_eq]
  exact ⟨fun h => by cases a; cases b; congr; exact Array.toList_inj.1 h, fun h => by rw [h]⟩
theorem drop_rd {l : List ByteArray} {i : Nat} (h : i < l.length) : l.drop i = rdOf ByteArray.empty l i :: l.drop (i + 1) := by
  rw [List.drop_eq_getElem_cons h]
  simp [rdOf, h]
theorem ix_l0 (l : List ByteArray) (x : ByteArray) (hl : l.length ≤ 1000) : ∀ d i : Nat, i + d = l.length → ∃ r : Int, Ev (fun k => slices_Index_string_string.l0 k l x l.length i) r ∧ decide (r ≥ 0) = nhas (l.drop i) x
  | 0, i, hi => by
    refine ⟨-1, Ev.step (f := fun _ => some (-1)) (fun k => by simp only [slices_Index_string_string.l0]; rw [if_neg (by omega)]) (Ev.now _), ?_⟩
    rw [List.drop_eq_nil_of_le (by omega)]
    rfl
  | d + 1, i, hi => by
    rw [drop_rd (show i < l.length by omega), nhas_cons]
    by_cases h : x = rdOf ByteArray.empty l i
    · refine ⟨(i : Int), Ev.step (f := fun _ => some (i : Int)) (fun k => by simp only [slices_Index_string_string.l0]; rw [if_pos (by omega), if_pos (by omega), if_pos (by omega), if_pos (ba_tl.2 h)]) (Ev.now _), ?_⟩
      rw [ba_beq.2 h, Bool.true_or]
      exact decide_eq_true (by omega)
    · obtain ⟨r, h1, h2⟩ := ix_l0 l x hl d (i + 1) (by omega)
      refine ⟨r, Ev.step (f := fun k => slices_Index_string_string.l0 k l x l.length (i + 1 : Nat)) (fun k => by simp only [slices_Index_string_string.l0]; rw [if_pos (by omega), if_pos (by omega), if_pos (by omega), if_neg (fun e => h (ba_tl.1 e)), suc64 i (by omega)]) h1, ?_⟩
      rw [h2, show (x == rdOf ByteArray.empty l i) = false from by rw [Bool.eq_false_iff]; exact fun e => h (ba_beq.1 e), Bool.false_or]
theorem has_ev (l : List ByteArray) (x : ByteArray) (hl : l.length ≤ 1000) : Ev (fun k => slices_Contains_string_string.f k l x) (nhas l x) := by
  obtain ⟨r, h1, h2⟩ := ix_l0 l x hl l.length 0 (by omega)
  rw [List.drop_zero] at h2
  exact Ev.bind (g := fun k => slices_Index_string_string.f k l x) (f := fun _ t => some (decide (t ≥ 0))) h1 (Ev.val h2)
theorem pn_l0 (l : List ByteArray) (hl : l.length ≤ 60) : ∀ d i : Nat, i + d = l.length → Ev (fun k => impl_pureNames.l0 k l l l.length i) (pnFrom l i)
  | 0, i, hi => by
    refine Ev.step (f := fun _ => some true) (fun k => by simp only [impl_pureNames.l0]; rw [if_neg (by omega)]) (Ev.val ?_)
    rw [pnFrom, all_end (by omega)]
  | d + 1, i, hi => by
    refine Ev.step (f := fun k => (impl_pureName.f k (rdOf ByteArray.empty l i)).bind fun t => (if t = true then ((slices_Contains_string_string.f k (l.take i) (rdOf ByteArray.empty l i)).bind fun u => (if u = true then some false else impl_pureNames.l0 k l l l.length (i + 1 : Nat))) else some false)) (fun k => ?_) ?_
    · simp only [impl_pureNames.l0]
      rw [if_pos (by omega), if_pos (by omega), if_pos (by omega), suc64 i (by omega)]
      simp only [if_pos (show (i : Int) ≤ (l.length : Int) by omega), Int.toNat_natCast]
    · rw [pnFrom, all_step (by omega)]
      refine Ev.bind (g := fun k => impl_pureName.f k (rdOf ByteArray.empty l i)) (f := fun k t => if t = true then ((slices_Contains_string_string.f k (l.take i) (rdOf ByteArray.empty l i)).bind fun u => (if u = true then some false else impl_pureNames.l0 k l l l.length (i + 1 : Nat))) else some false) (pw_ev _) ?_
      cases h : pwP (rdOf ByteArray.empty l i) with
      | false => exact Ev.neg (by simp) (Ev.val (by simp [pnAt, h]))
      | true =>
        refine Ev.pos rfl (Ev.bind (g := fun k => slices_Contains_string_string.f k (l.take i) (rdOf ByteArray.empty l i)) (f := fun k u => if u = true then some false else impl_pureNames.l0 k l l l.length (i + 1 : Nat)) (has_ev _ _ (by rw [List.length_take]; omega)) ?_)
        cases h2 : nhas (l.take i) (rdOf ByteArray.empty l i) with
        | true => exact Ev.pos rfl (Ev.val (by simp [pnAt, h, h2]))
        | false => exact Ev.neg (by simp) (by rw [pnAt, h, h2]; exact pn_l0 l hl d (i + 1) (by omega))
theorem pn_ev (l : List ByteArray) : Ev (fun k => impl_pureNames.f k l) (pnP l) := by
  unfold pnP
  by_cases h : l.length ≤ 60
  · refine Ev.congr (g := fun k => impl_pureNames.f k l) (f := fun k => impl_pureNames.l0 k l l l.length (0 : Nat)) (fun k => by rw [impl_pureNames.f, if_neg (by omega)]; rfl) ?_
    simpa [h] using pn_l0 l h l.length 0 (by omega)
  · exact Ev.congr (g := fun k => impl_pureNames.f k l) (f := fun _ => some false) (fun k => by rw [impl_pureNames.f, if_pos (by omega)]) (Ev.val (by simp [h]))
theorem pnP_ok : PnOk pnP := fun l => (pn_ev l).rounds
theorem pnP_60 (l : List ByteArray) (h : pnP l = true) : l.length ≤ 60 := by
  simp only [pnP, Bool.and_eq_true, decide_eq_true_eq] at h
  exact h.1
theorem pf_l0 (l : List Int) (hl : l.length ≤ 4) : ∀ d i : Nat, i + d = l.length → Ev (fun k => impl_pathForm.l0 k l l.length i) ((l.drop i).all bitP)
  | 0, i, hi => by
    refine Ev.step (f := fun _ => some true) (fun k => by simp only [impl_pathForm.l0]; rw [if_neg (by omega)]) (Ev.val ?_)
    rw [List.drop_eq_nil_of_le (by omega)]
    rfl
  | d + 1, i, hi => by
    have e : l.drop i = rd l i :: l.drop (i + 1) := by
      rw [List.drop_eq_getElem_cons (by omega)]
      simp [rd, show i < l.length by omega]
    refine Ev.step (f := fun k => if bitP (rd l i) = true then impl_pathForm.l0 k l l.length (i + 1 : Nat) else some false) (fun k => ?_) ?_
    · simp only [impl_pathForm.l0]
      rw [if_pos (by omega), if_pos (by omega), if_pos (by omega), suc64 i (by omega)]
      generalize impl_pathForm.l0 k l l.length (i + 1 : Nat) = L
      simp only [bitP, decide_eq_true_eq]
      repeat' split
      all_goals first | rfl | omega
    · rw [e, List.all_cons]
      cases h : bitP (rd l i) with
      | true => exact Ev.pos rfl (by rw [Bool.true_and]; exact pf_l0 l hl d (i + 1) (by omega))
      | false => exact Ev.neg (by simp) (Ev.val (by simp))
theorem path_ev (l : List Int) : Ev (fun k => impl_pathForm.f k l) (pathP l) := by
  unfold pathP
  by_cases h : l.length ≤ 4
  · refine Ev.congr (g := fun k => impl_pathForm.f k l) (f := fun k => impl_pathForm.l0 k l l.length (0 : Nat)) (fun k => by rw [impl_pathForm.f, if_neg (by omega)]; rfl) ?_
    simpa [h] using pf_l0 l h l.length 0 (by omega)
  · exact Ev.congr (g := fun k => impl_pathForm.f k l) (f := fun _ => some false) (fun k => by rw [impl_pathForm.f, if_pos (by omega)]) (Ev.val (by simp [h]))
theorem empty_len (l : List S78) : l.isEmpty = decide (l.length = 0) := by cases l <;> simp
section
variable {fv : Fv} {n : Nat} (hn : n ≤ 100) (ih : ∀ t : S78, Ev (fun k => impl_termOk.f k t.f0 t.f1 t.f2 t.f3 t.f4 (n : Nat) fv) (tkP fv.b n t))
include hn ih
theorem tk_l0 (l : List S78) (hl : l.length ≤ 2) : ∀ d i : Nat, i + d = l.length → Ev (fun k => impl_termOk.l0 k ((n + 1 : Nat) : Int) fv l l.length i) ((l.drop i).all (tkP fv.b n))
  | 0, i, hi => by
    refine Ev.step (f := fun _ => some true) (fun k => by simp only [impl_termOk.l0]; rw [if_neg (by omega)]) (Ev.val ?_)
    rw [List.drop_eq_nil_of_le (by omega)]
    rfl
  | d + 1, i, hi => by
    have e : l.drop i = rd_T78 l i :: l.drop (i + 1) := by
      rw [List.drop_eq_getElem_cons (by omega)]
      simp [rd_T78, show i < l.length by omega]
    refine Ev.step (f := fun k => (impl_termOk.f k (rd_T78 l i).f0 (rd_T78 l i).f1 (rd_T78 l i).f2 (rd_T78 l i).f3 (rd_T78 l i).f4 (n : Nat) fv).bind fun t => if t = true then impl_termOk.l0 k ((n + 1 : Nat) : Int) fv l l.length (i + 1 : Nat) else some false) (fun k => ?_) ?_
    · simp only [impl_termOk.l0]
      rw [if_pos (by omega), if_pos (by omega), if_pos (by omega), suc64 i (by omega), show wrap64 (((n + 1 : Nat) : Int) - 1) = (n : Int) from by rw [w64 _ (by omega)]; omega]
    · refine Ev.bind (g := fun k => impl_termOk.f k (rd_T78 l i).f0 (rd_T78 l i).f1 (rd_T78 l i).f2 (rd_T78 l i).f3 (rd_T78 l i).f4 (n : Nat) fv) (f := fun k t => if t = true then impl_termOk.l0 k ((n + 1 : Nat) : Int) fv l l.length (i + 1 : Nat) else some false) (ih _) ?_
      rw [e, List.all_cons]
      cases h : tkP fv.b n (rd_T78 l i) with
      | true => exact Ev.pos rfl (by rw [Bool.true_and]; exact tk_l0 l hl d (i + 1) (by omega))
      | false => exact Ev.neg (by simp) (Ev.val (by simp))
theorem tk_j3 (c : Bool) (x0 x1 : Int) (x2 : ByteArray) (x3 : List Int) (l : List S78) (hl : c = false → l.length ≤ 2) : Ev (fun k => impl_termOk.j3 k ((n + 1 : Nat) : Int) fv c x0 x1 x2 x3 l) (!c && l.all (tkP fv.b n)) := by
  cases c with
  | true => exact Ev.step (f := fun _ => some false) (fun k => by simp only [impl_termOk.j3]; rw [if_pos (by first | trivial | rfl)]) (Ev.val rfl)
  | false =>
    refine Ev.step (f := fun k => impl_termOk.l0 k ((n + 1 : Nat) : Int) fv l l.length (0 : Nat)) (fun k => by simp only [impl_termOk.j3]; rw [if_neg (by simp)]; rfl) ?_
    simpa using tk_l0 hn ih l (hl rfl) l.length 0 (by omega)
theorem tk_j2 (kids : Nat) (hk : kids ≤ 2) (x0 x1 : Int) (x2 : ByteArray) (x3 : List Int) (l : List S78) (y0 y1 : Int) (y2 : ByteArray) (y3 : List Int) (y4 : List S78) :
    Ev (fun k => impl_termOk.j2 k ((n + 1 : Nat) : Int) fv kids x0 x1 x2 x3 l y0 y1 y2 y3 y4) (decide (y1 = 0) && y2.toList.isEmpty && y3.isEmpty && decide (l.length = kids) && l.all (tkP fv.b n)) := by
  by_cases h1 : y1 = 0
  case neg => exact Ev.step (f := fun k => impl_termOk.j3 k ((n + 1 : Nat) : Int) fv true x0 x1 x2 x3 l) (fun k => by simp only [impl_termOk.j2]; rw [if_neg h1]) (Ev.cast (tk_j3 hn ih true x0 x1 x2 x3 l (fun e => by simp at e)) (by rw [decide_eq_false h1]; rfl))
  by_cases h2 : y2.toList = []
  case neg => exact Ev.step (f := fun k => impl_termOk.j3 k ((n + 1 : Nat) : Int) fv true x0 x1 x2 x3 l) (fun k => by simp only [impl_termOk.j2]; rw [if_pos h1, if_neg h2]) (Ev.cast (tk_j3 hn ih true x0 x1 x2 x3 l (fun e => by simp at e)) (by rw [show y2.toList.isEmpty = false from by simpa using h2]; simp))
  by_cases h3 : y3 = []
  case neg => exact Ev.step (f := fun k => impl_termOk.j3 k ((n + 1 : Nat) : Int) fv true x0 x1 x2 x3 l) (fun k => by simp only [impl_termOk.j2]; rw [if_pos h1, if_pos h2, if_neg (by simpa using h3)]) (Ev.cast (tk_j3 hn ih true x0 x1 x2 x3 l (fun e => by simp at e)) (by rw [show y3.isEmpty = false from by simpa using h3]; simp))
  refine Ev.step (f := fun k => impl_termOk.j3 k ((n + 1 : Nat) : Int) fv ((l.length : Int) != (kids : Int)) x0 x1 x2 x3 l) (fun k => by simp only [impl_termOk.j2]; rw [if_pos h1, if_pos h2, if_pos (by simp [h3])]) ?_
  by_cases h4 : l.length = kids
  · have e : ((l.length : Int) != (kids : Int)) = false := by simp [h4]
    rw [e]
    exact Ev.cast (tk_j3 hn ih false x0 x1 x2 x3 l (fun _ => by omega)) (by simp [h1, h2, h3, h4])
  · have e : ((l.length : Int) != (kids : Int)) = true := by simp; omega
    rw [e]
    exact Ev.cast (tk_j3 hn ih true x0 x1 x2 x3 l (fun e => by simp at e)) (by simp [h4])
theorem tk_j0t (kd x0 x1 : Int) (x2 : ByteArray) (x3 : List Int) (l : List S78) (y0 y1 : Int) (y2 : ByteArray) (y3 : List Int) (y4 : List S78) :
    Ev (fun k => impl_termOk.j0 k ((n + 1 : Nat) : Int) fv kd true x0 x1 x2 x3 l y0 y1 y2 y3 y4) (decide (y1 = 0) && y2.toList.isEmpty && y3.isEmpty && decide (l.length = 2) && l.all (tkP fv.b n)) :=
  Ev.step (f := fun k => impl_termOk.j2 k ((n + 1 : Nat) : Int) fv (2 : Nat) x0 x1 x2 x3 l y0 y1 y2 y3 y4) (fun k => by simp only [impl_termOk.j0]; rw [if_pos (by first | trivial | rfl)]; rfl) (tk_j2 hn ih 2 (by omega) x0 x1 x2 x3 l y0 y1 y2 y3 y4)
theorem tk_j1t (m : Nat) (hm : m ≤ 2) (x0 x1 : Int) (hx : wrap64 (wrap64 (1 + x0) - 7) = (m : Nat)) (x2 : ByteArray) (x3 : List Int) (l : List S78) (y0 y1 : Int) (y2 : ByteArray) (y3 : List Int) (y4 : List S78) :
    Ev (fun k => impl_termOk.j1 k ((n + 1 : Nat) : Int) fv true x0 x1 x2 x3 l y0 y1 y2 y3 y4) (pathP x3 && decide (y1 = 0) && y2.toList.isEmpty && decide (l.length = m) && l.all (tkP fv.b n)) := by
  refine Ev.step (f := fun k => (impl_pathForm.f k x3).bind fun t => if t = true then impl_termOk.j2 k ((n + 1 : Nat) : Int) fv (m : Nat) x0 x1 x2 x3 l y0 y1 y2 [] y4 else some false) (fun k => by simp only [impl_termOk.j1]; rw [if_pos (by first | trivial | rfl), hx]) ?_
  refine Ev.bind (g := fun k => impl_pathForm.f k x3) (f := fun k t => if t = true then impl_termOk.j2 k ((n + 1 : Nat) : Int) fv (m : Nat) x0 x1 x2 x3 l y0 y1 y2 [] y4 else some false) (path_ev x3) ?_
  cases h : pathP x3 with
  | true => exact Ev.pos rfl (Ev.cast (tk_j2 hn ih m hm x0 x1 x2 x3 l y0 y1 y2 [] y4) (by simp))
  | false => exact Ev.neg (by simp) (Ev.val (by simp))
omit hn ih in
theorem tk_j0f (kd x0 x1 : Int) (x2 : ByteArray) (x3 : List Int) (l : List S78) (y0 y1 : Int) (y2 : ByteArray) (y3 : List Int) (y4 : List S78) {r : Bool}
    (h : Ev (fun k => impl_termOk.j1 k ((n + 1 : Nat) : Int) fv (kd == 7 || kd == 8) x0 x1 x2 x3 l y0 y1 y2 y3 y4) r) : Ev (fun k => impl_termOk.j0 k ((n + 1 : Nat) : Int) fv kd false x0 x1 x2 x3 l y0 y1 y2 y3 y4) r := by
  refine Ev.step (f := fun k => impl_termOk.j1 k ((n + 1 : Nat) : Int) fv (kd == 7 || kd == 8) x0 x1 x2 x3 l y0 y1 y2 y3 y4) (fun k => ?_) h
  simp only [impl_termOk.j0]
  rw [if_neg (by simp)]
  by_cases h7 : kd = 7
  · rw [if_pos h7, h7]; rfl
  · rw [if_neg h7, show (kd == 7) = false from by simpa using h7, Bool.false_or]
theorem tk_step (t : S78) : Ev (fun k => impl_termOk.f k t.f0 t.f1 t.f2 t.f3 t.f4 ((n + 1 : Nat) : Int) fv) (tkP fv.b (n + 1) t) := by
  obtain ⟨kd, x1, x2, x3, l⟩ := t
  rw [tkP]
  simp only
  by_cases k1 : kd = 1
  · subst k1
    rw [if_pos (by first | trivial | rfl)]
    by_cases h0 : x1 < 0
    · exact Ev.step (f := fun _ => some false) (fun k => by simp only [impl_termOk.f]; rw [if_neg (by omega), if_pos (by first | trivial | rfl), if_pos h0]) (Ev.val (by simp [show ¬ 0 ≤ x1 by omega]))
    · by_cases h1 : x1 > 9999
      · exact Ev.step (f := fun _ => some false) (fun k => by simp only [impl_termOk.f]; rw [if_neg (by omega), if_pos (by first | trivial | rfl), if_neg h0, if_pos h1]) (Ev.val (by simp [show ¬ x1 ≤ 9999 by omega]))
      · refine Ev.step (f := fun k => impl_termOk.j2 k ((n + 1 : Nat) : Int) fv (0 : Nat) 1 x1 x2 x3 l 1 0 x2 x3 l) (fun k => by simp only [impl_termOk.f]; rw [if_neg (by omega), if_pos (by first | trivial | rfl), if_neg h0, if_neg h1]; rfl) ?_
        exact Ev.cast (tk_j2 hn ih 0 (by omega) 1 x1 x2 x3 l 1 0 x2 x3 l) (by rw [decide_eq_true (show 0 ≤ x1 ∧ x1 ≤ 9999 by omega), empty_len]; rfl)
  rw [if_neg k1]
  by_cases k2 : kd = 2
  · subst k2
    rw [if_pos (by first | trivial | rfl)]
    refine Ev.step (f := fun k => (impl_pureName.f k x2).bind fun t => if t = true then (if fv.b x2 = true then impl_termOk.j2 k ((n + 1 : Nat) : Int) fv (0 : Nat) 2 x1 x2 x3 l 2 x1 (⟨#[]⟩ : ByteArray) x3 l else some false) else some false) (fun k => by simp only [impl_termOk.f]; rw [if_neg (by omega), if_neg (by omega), if_pos (by first | trivial | rfl)]; rfl) ?_
    refine Ev.bind (g := fun k => impl_pureName.f k x2) (f := fun k t => if t = true then (if fv.b x2 = true then impl_termOk.j2 k ((n + 1 : Nat) : Int) fv (0 : Nat) 2 x1 x2 x3 l 2 x1 (⟨#[]⟩ : ByteArray) x3 l else some false) else some false) (pw_ev x2) ?_
    cases h : pwP x2 with
    | false => exact Ev.neg (by simp) (Ev.val (by simp))
    | true =>
      refine Ev.pos rfl ?_
      cases h2 : fv.b x2 with
      | false => exact Ev.neg (by simp) (Ev.val (by simp))
      | true => exact Ev.pos rfl (Ev.cast (tk_j2 hn ih 0 (by omega) 2 x1 x2 x3 l 2 x1 (⟨#[]⟩ : ByteArray) x3 l) (by rw [empty_len, show (⟨#[]⟩ : ByteArray).toList.isEmpty = true from by rw [ByteArray.toList_eq]; rfl]; simp))
  rw [if_neg k2]
  by_cases k3 : 3 ≤ kd ∧ kd ≤ 6
  · rw [if_pos k3]
    refine Ev.step (f := fun k => impl_termOk.j0 k ((n + 1 : Nat) : Int) fv kd true kd x1 x2 x3 l kd x1 x2 x3 l) (fun k => ?_) (tk_j0t hn ih kd kd x1 x2 x3 l kd x1 x2 x3 l)
    simp only [impl_termOk.f]
    rw [if_neg (by omega), if_neg k1, if_neg k2]
    have : kd = 3 ∨ kd = 4 ∨ kd = 5 ∨ kd = 6 := by omega
    rcases this with rfl | rfl | rfl | rfl <;> simp
  rw [if_neg k3]
  have hf : ∀ k, impl_termOk.f (k + 1) kd x1 x2 x3 l ((n + 1 : Nat) : Int) fv = impl_termOk.j0 k ((n + 1 : Nat) : Int) fv kd false kd x1 x2 x3 l kd x1 x2 x3 l := fun k => by
    simp only [impl_termOk.f]
    rw [if_neg (by omega), if_neg k1, if_neg k2, if_neg (by omega), if_neg (by omega), if_neg (by omega), show (kd == 6) = false from by simp; omega]
  refine Ev.step hf (tk_j0f _ _ _ _ _ _ _ _ _ _ _ ?_)
  by_cases k7 : kd = 7
  · subst k7
    exact tk_j1t hn ih 1 (by omega) 7 x1 (by unfold wrap64; omega) x2 x3 l 7 x1 x2 x3 l
  rw [if_neg k7]
  by_cases k8 : kd = 8
  · subst k8
    exact tk_j1t hn ih 2 (by omega) 8 x1 (by unfold wrap64; omega) x2 x3 l 8 x1 x2 x3 l
  rw [if_neg k8, show (kd == 7 || kd == 8) = false from by simp [k7, k8]]
  exact Ev.step (f := fun _ => some false) (fun k => by simp only [impl_termOk.j1]; rw [if_neg (by simp)]) (Ev.val rfl)
end
theorem tk_ev (fv : Fv) : ∀ n : Nat, n ≤ 100 → ∀ t : S78, Ev (fun k => impl_termOk.f k t.f0 t.f1 t.f2 t.f3 t.f4 (n : Nat) fv) (tkP fv.b n t)
  | 0, _, t => Ev.step (f := fun _ => some false) (fun k => by simp only [impl_termOk.f]; rw [if_pos (by omega)]) (Ev.val rfl)
  | n + 1, hn, t => tk_step (by omega) (tk_ev fv n (by omega)) t
theorem tk8_ok : TkOk tk8 := fun x l t => (tk_ev ⟨x, nhas l⟩ 8 (by omega) t).rounds
end Go.Proofs.Ytdgpegkgelciaaa.PA
end
section
namespace Go.Proofs.Ytdgpegkgelciaaa.PA
open Go.RowKit Go.Proofs.YtdgpegkgelciaaaW.PrintWords Go.Proofs.YtdgpegkgelciaaaW.PrintLast Go.Proofs.YtdgpegkgelciaaaW.PrintMore
attribute [local go_sem] max2_int min2_int max_two min_two max_three min_three max_four min_four
set_option linter.unusedVariables false
set_option linter.unusedSimpArgs false
def impl_PureOk.f (l0 : List (S45)) : Option Bool := some (okPure tk8 pnP pwP l0)
theorem impl_PureOk.calls (A0 : Option Addr) (c0 : Nat) (l0 : List (S45)) (r : Bool) (w : World) (hr0 : Kd.C k45 w A0 l0.length l0) (hc0 : l0.length ≤ c0) (h : impl_PureOk.f l0 = some r) :
  Calls Try.prog 9 #[.slice A0 l0.length c0] w fun e w' => e = .returned (.bool r) ∧ Below w.heap.size w w' := by
 obtain rfl := Option.some.inj h
 exact pure_calls tk8_ok pnP_ok pnP_60 pwP_ok A0 c0 l0 w hr0 hc0
end Go.Proofs.Ytdgpegkgelciaaa.PA
end
