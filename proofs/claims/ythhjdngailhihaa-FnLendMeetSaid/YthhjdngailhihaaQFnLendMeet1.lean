-- Ythhjdngailhihaa's texts for the statement FnLendMeet, one behind the other (merge.py).
import Derived.Test.YthhjdngailhihaaQFnLendMeet0
section
namespace Go.Proofs.Ythhjdngailhihaa.PA
open Go.RowKit Go.Proofs.YthhjdngailhihaaW.PrintWords Go.Proofs.YthhjdngailhihaaW.PrintLast Go.Proofs.YthhjdngailhihaaW.PrintMore
attribute [local go_sem] max2_int min2_int max_two min_two max_three min_three max_four min_four
set_option linter.unusedVariables false
set_option linter.unusedSimpArgs false
def spec_DrawLendMeet.f (k : Nat) (l0 : List Int) : Option (ByteArray × List Int × ByteArray × List Int) := (spec_l6Open.f l0).bind fun bt142 => ((spec_l71Place.f k bt142.1 bt142.2).bind fun bt145 => ((spec_l71Place.f k bt142.1 bt145.2.2).bind fun bt151 => ((spec_l6Rd_pick.f k bt142.1 bt151.2.2 3).bind fun bt157 => (if bt157.1 > 0 then (some (bt145.1, bt145.2.1, bt145.1, bt151.2.1)) else (some (bt145.1, bt145.2.1, bt151.1, bt151.2.1))))))
theorem spec_DrawLendMeet.mono : ∀ a0 k, LeO (spec_DrawLendMeet.f k a0) (spec_DrawLendMeet.f (k + 1) a0) := by
 intro a0 k
 unfold spec_DrawLendMeet.f
 repeat' first
   | (with_reducible exact spec_l6Rd_pick.mono _ _ _ _)
   | (with_reducible exact spec_l71Place.mono _ _ _)
   | (with_reducible exact LeO.refl _)
   | (with_reducible exact LeO.none _)
   | (with_reducible refine LeO.ite ?_ ?_)
   | (with_reducible refine LeO.bind ?_ (fun _ => ?_))
   | exact spec_l6Rd_pick.mono _ _ _ _
   | exact spec_l71Place.mono _ _ _
   | exact LeO.none _
   | refine LeO.ite ?_ ?_
   | refine LeO.bind ?_ (fun _ => ?_)
set_option maxHeartbeats 8000000 in
set_option maxRecDepth 100000 in
theorem spec_DrawLendMeet.calls (k : Nat) (A0 : Option Addr) (c0 : Nat) (l0 : List Int) (r1 : ByteArray) (r2 : List Int) (r3 : ByteArray) (r4 : List Int) (w : World) (hr0 : Kd.C (Kd.int .u8) w A0 l0.length l0) (hc0 : l0.length ≤ c0) (h : spec_DrawLendMeet.f k l0 = some (r1, r2, r3, r4)) :
  Calls Try.prog 5 #[.slice A0 l0.length c0] w fun e w' => ∃ v1_ v3_ : Value, e = .returned (.tuple #[.agg #[.string r1, v1_], .agg #[.string r3, v3_]]) ∧ Kd.R (Kd.int .i64) 3 w' w.heap.size (fun k_ => some k_ ≠ (v3_ : Value).ownBlock) v1_ r2 ∧ Kd.R (Kd.int .i64) 3 w' w.heap.size (fun k_ => some k_ ≠ (v1_ : Value).ownBlock) v3_ r4 ∧ Below w.heap.size w w' := by
 have hu25 := Try.underlying25
 have HR0 := Aside0.mk hr0
 have HC0 := Aside0.mk hc0
 clear hr0 hc0
 have HB := Aside0.mk (Below.refl w.heap.size w)
 have H : ((spec_l6Open.f l0).bind fun bt142 => ((spec_l71Place.f k bt142.1 bt142.2).bind fun bt145 => ((spec_l71Place.f k bt142.1 bt145.2.2).bind fun bt151 => ((spec_l6Rd_pick.f k bt142.1 bt151.2.2 3).bind fun bt157 => (if bt157.1 > 0 then (some (bt145.1, bt145.2.1, bt145.1, bt151.2.1)) else (some (bt145.1, bt145.2.1, bt151.1, bt151.2.1))))))) = some (r1, r2, r3, r4) := h
 clear h
 obtain ⟨⟨t142, t143⟩, A20, H⟩ := ob H
 have A2 := Aside0.mk A20
 clear A20
 obtain ⟨⟨t145, t146, t149⟩, A30, H⟩ := ob H
 have A3 := Aside0.mk A30
 clear A30
 obtain ⟨⟨t151, t152, t155⟩, A40, H⟩ := ob H
 have A4 := Aside0.mk A40
 clear A40
 obtain ⟨⟨t157, t158⟩, A50, H⟩ := ob H
 have A5 := Aside0.mk A50
 clear A50
 have HZ6 := Aside0.mk H
 clear H
 go_enter Try.func5, Try.ntmps5
 go_upto_if 15 with (first | ((with_reducible refine gate_dst (N := 2) rfl ?_); refine zbx 2 #[.string (⟨#[]⟩ : ByteArray), .slice none 0 0] 25 ?_; intro gb140 hg w7 hbox hb; have BK140 := Aside0.mk hbox; have GW140 := Aside0.mk ((y6 hg HB.out : w.heap.size ≤ gb140)); have GE140 := Aside0.mk ((y6 hg HB.out : w.heap.size ≤ gb140)); replace HB := Aside0.mk (below_step (y4 HB.out) hb); clear hb hbox hg) | ((with_reducible refine gate_dst (N := 3) rfl ?_); refine zbx 3 #[.string (⟨#[]⟩ : ByteArray), .slice none 0 0] 25 ?_; intro gb141 hg w8 hbox hb; have BK141 := Aside0.mk hbox; have GW141 := Aside0.mk ((y7 hg HB.out GE140.out : w.heap.size ≤ gb141)); have GE141 := Aside0.mk ((y7 hg HB.out GE140.out : w.heap.size ≤ gb141)); replace HB := Aside0.mk (below_step (y3 HB.out GE140.out) hb); have NB140_141 := zltn hg BK140; have NB141_140 := zgtn hg BK140; replace BK140 := zbb BK140 hb; clear hb hbox hg) | ((with_reducible refine gate_callee (f := 11) rfl ?_); refine goesL_ (some 8) rfl rfl Try.func11 (by kernel_rfl) rfl #[.slice A0 l0.length c0] rfl y9 ?_; (with_reducible refine (spec_l6Open.calls _ _ l0 t142 t143 w _ ?side1 ?side2 ?side3 A2.out).mono ?_); (case side1 => exact y1 HB.out GE140.out GE141.out); (case side2 => exact HR0.out); (case side3 => exact HC0.out); rintro e w9 ⟨g144, rfl, hi, hb, hb2⟩; refine ⟨_, rfl, ?_⟩; replace HB := Aside0.mk (hb); have HI144 := Aside0.mk (hi); have NB144_140 := Aside0.mk (IsS43.ne_blk hi (blk_below (g := gb140) (o := .cells #[.string (⟨#[]⟩ : ByteArray), .slice none 0 0] 25 (0, 0)) (y2 BK140.out) hb2) (by decide)); have NB140_144 := Aside0.mk (Ne.symm (IsS43.ne_blk hi (blk_below (g := gb140) (o := .cells #[.string (⟨#[]⟩ : ByteArray), .slice none 0 0] 25 (0, 0)) (y2 BK140.out) hb2) (by decide))); replace BK140 := Aside0.mk (blk_below (g := gb140) (o := .cells #[.string (⟨#[]⟩ : ByteArray), .slice none 0 0] 25 (0, 0)) (y2 BK140.out) hb2); have NB144_141 := Aside0.mk (IsS43.ne_blk hi (blk_below (g := gb141) (o := .cells #[.string (⟨#[]⟩ : ByteArray), .slice none 0 0] 25 (0, 0)) (y2 BK141.out) hb2) (by decide)); have NB141_144 := Aside0.mk (Ne.symm (IsS43.ne_blk hi (blk_below (g := gb141) (o := .cells #[.string (⟨#[]⟩ : ByteArray), .slice none 0 0] 25 (0, 0)) (y2 BK141.out) hb2) (by decide))); replace BK141 := Aside0.mk (blk_below (g := gb141) (o := .cells #[.string (⟨#[]⟩ : ByteArray), .slice none 0 0] 25 (0, 0)) (y2 BK141.out) hb2); (try clear hb); (try clear hb2); (try clear hk); (try clear hi)) | ((with_reducible refine gate_callee (f := 12) rfl ?_); refine goesL_ (some 10) rfl rfl Try.func12 (by kernel_rfl) rfl #[.pointer (some ⟨g144, 0, none⟩)] rfl y9 ?_; (with_reducible refine (spec_l71Place.calls k g144 t142 t143 t145 t146 t149 w _ ?side1 ?side2 A3.out).mono ?_); (case side1 => exact y17 HI144.out NB144_140.out NB144_141.out); (case side2 => exact y12 HB.out HI144.out GE140.out GE141.out); rintro e w10 ⟨v147, rfl, ho0, hi, hb, hk⟩; refine ⟨_, rfl, ?_⟩; replace BK140 := Aside0.mk (KeepBut.blk hk (g' := gb140) (o := .cells #[.string (⟨#[]⟩ : ByteArray), .slice none 0 0] 25 (0, 0)) (y2 BK140.out) NB140_144.out (by simp)); replace BK141 := Aside0.mk (KeepBut.blk hk (g' := gb141) (o := .cells #[.string (⟨#[]⟩ : ByteArray), .slice none 0 0] 25 (0, 0)) (y2 BK141.out) NB141_144.out (by simp)); have HO148 := Aside0.mk (Kd.R_lower ho0 (below_size (y12 HB.out HI144.out GE140.out GE141.out))); replace HB := Aside0.mk (hb); replace HI144 := Aside0.mk (hi); (try clear hb); (try clear hb2); (try clear hk); (try clear hi); (try clear ho0)) | ((with_reducible refine gate_dst (N := 5) rfl ?_); refine zbx 5 #[.string (⟨#[]⟩ : ByteArray), .slice none 0 0] 25 ?_; intro gb150 hg w11 hbox hb; replace HO148 := Aside0.mk (Kd.R_below (y0 HO148.out) hb); have BK150 := Aside0.mk hbox; have GW150 := Aside0.mk ((y52 hg HB.out HI144.out GE140.out GE141.out : w.heap.size ≤ gb150)); have GE150 := Aside0.mk ((y52 hg HB.out HI144.out GE140.out GE141.out : w.heap.size ≤ gb150)); replace HB := Aside0.mk (below_step (y12 HB.out HI144.out GE140.out GE141.out) hb); have NB140_150 := zltn hg BK140; have NB150_140 := zgtn hg BK140; replace BK140 := zbb BK140 hb; have NB141_150 := zltn hg BK141; have NB150_141 := zgtn hg BK141; replace BK141 := zbb BK141 hb; have NB144_150 := Aside0.mk ((by rw [hg]; exact Nat.ne_of_lt (IsS43.lt (show IsS43 w _ g144 t142 t149 from by repeat (first | (with_reducible first | exact HI144.out | apply IsS43.alloc | apply IsS43.drewN | apply IsS43.drew | apply IsS43.set_1 | refine IsS43.far ?_ NB144_140.out _ | refine IsS43.far ?_ NB144_141.out _) | exact HI144.out))) : g144 ≠ gb150)); have NB150_144 := Aside0.mk ((by rw [hg]; exact Nat.ne_of_gt (IsS43.lt (show IsS43 w _ g144 t142 t149 from by repeat (first | (with_reducible first | exact HI144.out | apply IsS43.alloc | apply IsS43.drewN | apply IsS43.drew | apply IsS43.set_1 | refine IsS43.far ?_ NB144_140.out _ | refine IsS43.far ?_ NB144_141.out _) | exact HI144.out))) : gb150 ≠ g144)); replace HI144 := Aside0.mk (IsS43.below (y17 HI144.out NB144_140.out NB144_141.out) hb); clear hb hbox hg; have hnb12 := NB150_140.out; have hnc12 := NB140_150.out; have hnb13 := NB150_141.out; have hnc13 := NB141_150.out; have hnb14 := NB150_144.out; have hnc14 := NB144_150.out; have hcz15_0 := zh BK150; have hcz15_1 := zh1 BK150; have hfz15_0 := zfr BK150 0; have hfz15_1 := zfr BK150 1; obtain ⟨Ao16, co16, eo16⟩ := Kd.R_slice HO148.out; subst eo16) | ((with_reducible refine gate_callee (f := 12) rfl ?_); refine goesL_ (some 12) rfl rfl Try.func12 (by kernel_rfl) rfl #[.pointer (some ⟨g144, 0, none⟩)] rfl y9 ?_; (with_reducible refine (spec_l71Place.calls k g144 t142 t149 t151 t152 t155 w _ ?side1 ?side2 A4.out).mono ?_); (case side1 => exact y55 HI144.out NB144_140.out NB144_141.out NB144_150.out); (case side2 => exact y27 HB.out HI144.out GE140.out GE141.out GE150.out); rintro e w17 ⟨v153, rfl, ho0, hi, hb, hk⟩; refine ⟨_, rfl, ?_⟩; replace BK140 := Aside0.mk (KeepBut.blk hk (g' := gb140) (o := .cells #[.string (⟨#[]⟩ : ByteArray), .slice none 0 0] 25 (0, 0)) (y8 NB140_150.out BK140.out) NB140_144.out (by simp)); replace BK141 := Aside0.mk (KeepBut.blk hk (g' := gb141) (o := .cells #[.string (⟨#[]⟩ : ByteArray), .slice none 0 0] 25 (0, 0)) (y8 NB141_150.out BK141.out) NB141_144.out (by simp)); have HO154 := Aside0.mk (Kd.R_lower (Kd.R_new' ho0 (Kd.R_lt (by (with_reducible repeat (first | apply Kd.R_alloc | apply Kd.R_drewN | apply Kd.R_drew)); exact (Kd.R_mono (Kd.R_far (p := ⟨gb150, 1, none⟩) (Kd.R_far (p := ⟨gb150, 0, none⟩) (Kd.R_types HO148.out BK150.out (by decide)) (fun _ hk => hk.2) (.string t145)) (fun _ hk => hk.2) (.slice Ao16 t146.length co16)) (fun _ h_ => h_.1))))) (below_size (y27 HB.out HI144.out GE140.out GE141.out GE150.out))); replace HO148 := Aside0.mk (Kd.R_mono (Kd.R_told (Kd.R_oldK (IsS43.apart (show IsS43 w _ g144 t142 t149 from by repeat (first | (with_reducible first | exact HI144.out | apply IsS43.alloc | apply IsS43.drewN | apply IsS43.drew | apply IsS43.set_1 | refine IsS43.far ?_ NB144_140.out _ | refine IsS43.far ?_ NB144_141.out _ | refine IsS43.far ?_ NB144_150.out _) | exact HI144.out)) (by (with_reducible repeat (first | apply Kd.R_alloc | apply Kd.R_drewN | apply Kd.R_drew)); exact (Kd.R_mono (Kd.R_far (p := ⟨gb150, 1, none⟩) (Kd.R_far (p := ⟨gb150, 0, none⟩) (Kd.R_types HO148.out BK150.out (by decide)) (fun _ hk => hk.2) (.string t145)) (fun _ hk => hk.2) (.slice Ao16 t146.length co16)) (fun _ h_ => h_.1))) (by decide)) hk) (Kd.R_base ho0)) (fun _ h_ => h_.1)); replace BK150 := Aside0.mk (KeepBut.blk hk (g' := gb150) (o := .cells #[.string t145, .slice Ao16 t146.length co16] 25 (0, 0)) (by (with_reducible repeat (first | refine blk_drewN ?_ _ | refine blk_drew ?_ | refine blk_alloc ?_ _)); refine blk_put (cs := #[.string t145, .slice none 0 0]) ?_ 1 _ rfl; (with_reducible repeat (first | refine blk_drewN ?_ _ | refine blk_drew ?_ | refine blk_alloc ?_ _)); apply blk_put (i := 0); (case h => exact y2 BK150.out); (case e => rfl)) NB150_144.out (by simp)); replace HB := Aside0.mk (hb); replace HI144 := Aside0.mk (hi); (try clear hb); (try clear hb2); (try clear hk); (try clear hi); (try clear ho0)) | ((with_reducible refine gate_dst (N := 6) rfl ?_); refine zbx 6 #[.string (⟨#[]⟩ : ByteArray), .slice none 0 0] 25 ?_; intro gb156 hg w18 hbox hb; replace HO148 := Aside0.mk (Kd.R_below (y0 HO148.out) hb); replace HO154 := Aside0.mk (Kd.R_below (y0 HO154.out) hb); have BK156 := Aside0.mk hbox; have GW156 := Aside0.mk ((y48 hg HB.out HI144.out GE140.out GE141.out GE150.out : w.heap.size ≤ gb156)); have GE156 := Aside0.mk ((y48 hg HB.out HI144.out GE140.out GE141.out GE150.out : w.heap.size ≤ gb156)); replace HB := Aside0.mk (below_step (y27 HB.out HI144.out GE140.out GE141.out GE150.out) hb); have NB140_156 := zltn hg BK140; have NB156_140 := zgtn hg BK140; replace BK140 := zbb BK140 hb; have NB141_156 := zltn hg BK141; have NB156_141 := zgtn hg BK141; replace BK141 := zbb BK141 hb; have NB150_156 := zltn hg BK150; have NB156_150 := zgtn hg BK150; replace BK150 := zbb BK150 hb; have NB144_156 := Aside0.mk ((by rw [hg]; exact Nat.ne_of_lt (IsS43.lt (show IsS43 w _ g144 t142 t155 from by repeat (first | (with_reducible first | exact HI144.out | apply IsS43.alloc | apply IsS43.drewN | apply IsS43.drew | apply IsS43.set_1 | refine IsS43.far ?_ NB144_140.out _ | refine IsS43.far ?_ NB144_141.out _ | refine IsS43.far ?_ NB144_150.out _) | exact HI144.out))) : g144 ≠ gb156)); have NB156_144 := Aside0.mk ((by rw [hg]; exact Nat.ne_of_gt (IsS43.lt (show IsS43 w _ g144 t142 t155 from by repeat (first | (with_reducible first | exact HI144.out | apply IsS43.alloc | apply IsS43.drewN | apply IsS43.drew | apply IsS43.set_1 | refine IsS43.far ?_ NB144_140.out _ | refine IsS43.far ?_ NB144_141.out _ | refine IsS43.far ?_ NB144_150.out _) | exact HI144.out))) : gb156 ≠ g144)); replace HI144 := Aside0.mk (IsS43.below (y55 HI144.out NB144_140.out NB144_141.out NB144_150.out) hb); clear hb hbox hg; have hnb19 := NB156_140.out; have hnc19 := NB140_156.out; have hnb20 := NB156_141.out; have hnc20 := NB141_156.out; have hnb21 := NB156_150.out; have hnc21 := NB150_156.out; have hnb22 := NB156_144.out; have hnc22 := NB144_156.out; have hcz23_0 := zh BK156; have hcz23_1 := zh1 BK156; have hfz23_0 := zfr BK156 0; have hfz23_1 := zfr BK156 1; obtain ⟨Ao24, co24, eo24⟩ := Kd.R_slice HO154.out; subst eo24) | ((with_reducible refine gate_callee (f := 13) rfl ?_); refine goesL_ (some 14) rfl rfl Try.func13 (by kernel_rfl) rfl #[.pointer (some ⟨g144, 0, none⟩), .int .i64 3] rfl y9 ?_; (with_reducible refine (spec_l6Rd_pick.calls k g144 t142 t155 3 t157 t158 w _ ?side1 ?side2 A5.out).mono ?_); (case side1 => exact y51 HI144.out NB144_140.out NB144_141.out NB144_150.out NB144_156.out); (case side2 => exact y31 HB.out HI144.out GE140.out GE141.out GE150.out GE156.out); rintro e w25 ⟨rfl, hi, hb, hk⟩; refine ⟨_, rfl, ?_⟩; replace BK140 := Aside0.mk (KeepBut.blk hk (g' := gb140) (o := .cells #[.string (⟨#[]⟩ : ByteArray), .slice none 0 0] 25 (0, 0)) (y8 NB140_156.out BK140.out) NB140_144.out (by simp)); replace BK141 := Aside0.mk (KeepBut.blk hk (g' := gb141) (o := .cells #[.string (⟨#[]⟩ : ByteArray), .slice none 0 0] 25 (0, 0)) (y8 NB141_156.out BK141.out) NB141_144.out (by simp)); replace HO148 := Aside0.mk (Kd.R_mono (Kd.R_keep (IsS43.apart (show IsS43 w _ g144 t142 t155 from by repeat (first | (with_reducible first | exact HI144.out | apply IsS43.alloc | apply IsS43.drewN | apply IsS43.drew | apply IsS43.set_1 | refine IsS43.far ?_ NB144_140.out _ | refine IsS43.far ?_ NB144_141.out _ | refine IsS43.far ?_ NB144_150.out _ | refine IsS43.far ?_ NB144_156.out _) | exact HI144.out)) (by (with_reducible repeat (first | apply Kd.R_alloc | apply Kd.R_drewN | apply Kd.R_drew)); exact (Kd.R_mono (Kd.R_far (p := ⟨gb156, 1, none⟩) (Kd.R_far (p := ⟨gb156, 0, none⟩) (Kd.R_types HO148.out BK156.out (by decide)) (fun _ hk => hk.2) (.string t151)) (fun _ hk => hk.2) (.slice Ao24 t152.length co24)) (fun _ h_ => h_.1))) (by decide)) hk (fun _ h => h.2)) (fun _ h => h.1)); replace BK150 := Aside0.mk (KeepBut.blk hk (g' := gb150) (o := .cells #[.string t145, .slice Ao16 t146.length co16] 25 (0, 0)) (y8 NB150_156.out BK150.out) NB150_144.out (by simp)); replace HO154 := Aside0.mk (Kd.R_mono (Kd.R_keep (IsS43.apart (show IsS43 w _ g144 t142 t155 from by repeat (first | (with_reducible first | exact HI144.out | apply IsS43.alloc | apply IsS43.drewN | apply IsS43.drew | apply IsS43.set_1 | refine IsS43.far ?_ NB144_140.out _ | refine IsS43.far ?_ NB144_141.out _ | refine IsS43.far ?_ NB144_150.out _ | refine IsS43.far ?_ NB144_156.out _) | exact HI144.out)) (by (with_reducible repeat (first | apply Kd.R_alloc | apply Kd.R_drewN | apply Kd.R_drew)); exact (Kd.R_mono (Kd.R_far (p := ⟨gb156, 1, none⟩) (Kd.R_far (p := ⟨gb156, 0, none⟩) (Kd.R_types HO154.out BK156.out (by decide)) (fun _ hk => hk.2) (.string t151)) (fun _ hk => hk.2) (.slice Ao24 t152.length co24)) (fun _ h_ => h_.1))) (by decide)) hk (fun _ h => h.2)) (fun _ h => h.1)); replace BK156 := Aside0.mk (KeepBut.blk hk (g' := gb156) (o := .cells #[.string t151, .slice Ao24 t152.length co24] 25 (0, 0)) (by (with_reducible repeat (first | refine blk_drewN ?_ _ | refine blk_drew ?_ | refine blk_alloc ?_ _)); refine blk_put (cs := #[.string t151, .slice none 0 0]) ?_ 1 _ rfl; (with_reducible repeat (first | refine blk_drewN ?_ _ | refine blk_drew ?_ | refine blk_alloc ?_ _)); apply blk_put (i := 0); (case h => exact y2 BK156.out); (case e => rfl)) NB156_144.out (by simp)); replace HB := Aside0.mk (hb); replace HI144 := Aside0.mk (hi); (try clear hb); (try clear hb2); (try clear hk); (try clear hi)))
 (try simp only [Act.put, List.setIfInBounds_toArray, List.set_cons_zero, List.set_cons_succ])
 have H := HZ6.out
 clear HZ6
 by_cases c26 : t157 > 0
 ·rw [if_pos c26] at H
  have c26b0 : decide (0 < t157) = true := decide_eq_true c26
  clear c26
  (first | rw [c26b0] | (simp only [i64_w, i32_w]; rw [c26b0]) | skip)
  simp only [Option.some.injEq, Prod.mk.injEq] at H
  obtain ⟨rfl, rfl, rfl, rfl⟩ := H
  have hnb27 := NB150_140.out
  have hnc27 := NB140_150.out
  have hnb28 := NB150_141.out
  have hnc28 := NB141_150.out
  have hnb29 := NB150_156.out
  have hnc29 := NB156_150.out
  have hnb30 := NB150_144.out
  have hnc30 := NB144_150.out
  have hcz31_0 := zh BK150
  have hcz31_1 := zh1 BK150
  have hfz31_0 := zfr BK150 0
  have hfz31_1 := zfr BK150 1
  have hnb32 := NB156_140.out
  have hnc32 := NB140_156.out
  have hnb33 := NB156_141.out
  have hnc33 := NB141_156.out
  have hnb34 := NB156_144.out
  have hnc34 := NB144_156.out
  have hcz35_0 := zh BK156
  have hcz35_1 := zh1 BK156
  have hfz35_0 := zfr BK156 0
  have hfz35_1 := zfr BK156 1
  try go_wp2
  have n0_ : Aside0 (Kd.R (Kd.int .i64) 3 (w25.setCell ⟨gb156, 0, none⟩ (.string t145)) w.heap.size (fun k_ => some k_ ≠ (.slice Ao24 t152.length co24 : Value).ownBlock) (.slice Ao16 t146.length co16) t146) := ⟨(by (with_reducible repeat (first | apply Kd.R_alloc | apply Kd.R_drewN | apply Kd.R_drew)); exact Kd.R_mono (Kd.R_far (p := ⟨gb156, 0, none⟩) (Kd.R_types HO148.out BK156.out (by decide)) (fun _ hk => hk.2) (.string t145)) (fun _ hk => hk.1.2))⟩
  have n1_ : Aside0 (Kd.R (Kd.int .i64) 3 (w25.setCell ⟨gb156, 0, none⟩ (.string t145)) w.heap.size (fun k_ => some k_ ≠ (.slice Ao16 t146.length co16 : Value).ownBlock) (.slice Ao24 t152.length co24) t152) := ⟨(by (with_reducible repeat (first | apply Kd.R_alloc | apply Kd.R_drewN | apply Kd.R_drew)); exact Kd.R_mono (Kd.R_far (p := ⟨gb156, 0, none⟩) (Kd.R_types HO154.out BK156.out (by decide)) (fun _ hk => hk.2) (.string t145)) (fun _ hk => hk.1.2))⟩
  have n2_ : Aside0 ((w25.setCell ⟨gb156, 0, none⟩ (.string t145)).heap[gb140]? = some (.cells #[.string (⟨#[]⟩ : ByteArray), .slice none 0 0] 25 (0, 0))) := ⟨(y33 NB140_156.out BK140.out)⟩
  have n3_ : Aside0 ((w25.setCell ⟨gb156, 0, none⟩ (.string t145)).heap[gb141]? = some (.cells #[.string (⟨#[]⟩ : ByteArray), .slice none 0 0] 25 (0, 0))) := ⟨(y33 NB141_156.out BK141.out)⟩
  have n4_ : Aside0 ((w25.setCell ⟨gb156, 0, none⟩ (.string t145)).heap[gb150]? = some (.cells #[.string t145, .slice Ao16 t146.length co16] 25 (0, 0))) := ⟨(y33 NB150_156.out BK150.out)⟩
  have n5_ : Aside0 ((w25.setCell ⟨gb156, 0, none⟩ (.string t145)).heap[gb156]? = some (.cells #[.string t145, .slice Ao24 t152.length co24] 25 (0, 0))) := ⟨(by (with_reducible repeat (first | refine blk_drewN ?_ _ | refine blk_drew ?_ | refine blk_alloc ?_ _)); refine blk_put (cs := #[.string t151, .slice Ao24 t152.length co24]) ?_ 0 _ rfl; (with_reducible repeat (first | refine blk_drewN ?_ _ | refine blk_drew ?_ | refine blk_alloc ?_ _)); exact BK156.out)⟩
  have n6_ : Aside0 (IsS43 w (w25.setCell ⟨gb156, 0, none⟩ (.string t145)) g144 t142 t158) := ⟨(y51 HI144.out NB144_140.out NB144_141.out NB144_150.out NB144_156.out)⟩
  have n7_ : Aside0 (Below w.heap.size w (w25.setCell ⟨gb156, 0, none⟩ (.string t145))) := ⟨(y31 HB.out HI144.out GE140.out GE141.out GE150.out GE156.out)⟩
  (try clear HO148)
  (try clear HO154)
  (try clear BK140)
  (try clear BK141)
  (try clear BK150)
  (try clear BK156)
  (try clear HI144)
  (try clear HB)
  generalize (w25.setCell ⟨gb156, 0, none⟩ (.string t145)) = w36 at n0_ n1_ n2_ n3_ n4_ n5_ n6_ n7_ ⊢
  have HO148 := n0_
  have HO154 := n1_
  have BK140 := n2_
  have BK141 := n3_
  have BK150 := n4_
  have BK156 := n5_
  have HI144 := n6_
  have HB := n7_
  clear n0_ n1_ n2_ n3_ n4_ n5_ n6_ n7_
  replace HO148 := Aside0.mk (Kd.R_drew HO148.out)
  replace HO154 := Aside0.mk (Kd.R_drew HO154.out)
  replace BK140 := Aside0.mk (blk_drew BK140.out)
  replace BK141 := Aside0.mk (blk_drew BK141.out)
  replace BK150 := Aside0.mk (blk_drew BK150.out)
  replace BK156 := Aside0.mk (blk_drew BK156.out)
  replace HI144 := Aside0.mk (IsS43.drew HI144.out)
  replace HB := Aside0.mk (below_drew1 HB.out)
  refine start_ (n := 4) (S := fun w' => w'.cell? ⟨gb150, 0, none⟩ = some (.string t145) ∧ w'.cell? ⟨gb150, 1, none⟩ = some (.slice Ao16 t146.length co16) ∧ w'.cell? ⟨gb156, 0, none⟩ = some (.string t145) ∧ w'.cell? ⟨gb156, 1, none⟩ = some (.slice Ao24 t152.length co24)) (ds := []) #[false, false, false, false] (by kernel_rfl) rfl rfl ⟨(blk_cell BK150.out 0).trans rfl, (blk_cell BK150.out 1).trans rfl, (blk_cell BK156.out 0).trans rfl, (blk_cell BK156.out 1).trans rfl⟩ (fun hHeld => ?_)
  generalize w36.drew = w37 at HO148 HO154 BK140 BK141 BK150 BK156 HI144 HB hHeld ⊢
  refine take_ (i := 0) (N := some 19) (v := ?_) (a' := ?_) #[true, false, false, false] rfl rfl (by kernel_rfl) (fun _ _ _ h => h) (Or.inl ⟨(by rfl), ?_⟩) hHeld ?_ ?_
  rotate_left
  ·rintro w' ⟨s0, s1, s2, s3⟩
   go_simp
   with_reducible rfl
  rotate_left
  ·simp only [Act.put, List.setIfInBounds_toArray, List.set_cons_zero, List.set_cons_succ, i64_w, i32_w]
   rfl
  refine take_ (i := 1) (N := some 20) (v := ?_) (a' := ?_) #[true, true, false, false] rfl rfl (by kernel_rfl) (fun _ _ _ h => h) (Or.inl ⟨(by rfl), ?_⟩) hHeld ?_ ?_
  rotate_left
  ·rintro w' ⟨s0, s1, s2, s3⟩
   go_simp
   with_reducible rfl
  rotate_left
  ·simp only [Act.put, List.setIfInBounds_toArray, List.set_cons_zero, List.set_cons_succ, i64_w, i32_w]
   rfl
  refine one_ (i := 2) (N := none) #[true, true, true, false] rfl rfl (by kernel_rfl) (by decide) (fun K hK => ?_)
  have hs38 : w37.cell? ⟨gb140, 0, none⟩ = some (.string (⟨#[]⟩ : ByteArray)) := (blk_cell BK140.out 0).trans rfl
  have hfs38 := zfr BK140 0
  have hns38_1 := NB141_140.out
  have hns38_2 := NB150_140.out
  have hns38_3 := NB156_140.out
  have hms38_1 := NB140_141.out
  have hms38_2 := NB140_150.out
  have hms38_3 := NB140_156.out
  have hs39 : w37.cell? ⟨gb140, 1, none⟩ = some (.slice none 0 0) := (blk_cell BK140.out 1).trans rfl
  have hfs39 := zfr BK140 1
  have hns39_1 := NB141_140.out
  have hns39_2 := NB150_140.out
  have hns39_3 := NB156_140.out
  have hms39_1 := NB140_141.out
  have hms39_2 := NB140_150.out
  have hms39_3 := NB140_156.out
  refine skip_ (w1 := ?_) (by rfl) rfl ?_ ?_
  rotate_left
  ·go_simp
   rfl
  refine hK.out _ _ ⟨((cell_far (p := ⟨gb140, _, none⟩) NB150_140.out _).trans (((cell_far (p := ⟨gb140, _, none⟩) NB150_140.out _).trans (hHeld.1)))), ((cell_far (p := ⟨gb140, _, none⟩) NB150_140.out _).trans (((cell_far (p := ⟨gb140, _, none⟩) NB150_140.out _).trans (hHeld.2.1)))), ((cell_far (p := ⟨gb140, _, none⟩) NB156_140.out _).trans (((cell_far (p := ⟨gb140, _, none⟩) NB156_140.out _).trans (hHeld.2.2.1)))), ((cell_far (p := ⟨gb140, _, none⟩) NB156_140.out _).trans (((cell_far (p := ⟨gb140, _, none⟩) NB156_140.out _).trans (hHeld.2.2.2))))⟩ (fun hHeld => ?_)
  clear hK K
  refine one_ (i := 3) (N := none) #[true, true, true, true] rfl rfl (by kernel_rfl) (by decide) (fun K hK => ?_)
  have hs40 : w37.cell? ⟨gb141, 0, none⟩ = some (.string (⟨#[]⟩ : ByteArray)) := (blk_cell BK141.out 0).trans rfl
  have hfs40 := zfr BK141 0
  have hns40_0 := NB140_141.out
  have hns40_2 := NB150_141.out
  have hns40_3 := NB156_141.out
  have hms40_0 := NB141_140.out
  have hms40_2 := NB141_150.out
  have hms40_3 := NB141_156.out
  have hs41 : w37.cell? ⟨gb141, 1, none⟩ = some (.slice none 0 0) := (blk_cell BK141.out 1).trans rfl
  have hfs41 := zfr BK141 1
  have hns41_0 := NB140_141.out
  have hns41_2 := NB150_141.out
  have hns41_3 := NB156_141.out
  have hms41_0 := NB141_140.out
  have hms41_2 := NB141_150.out
  have hms41_3 := NB141_156.out
  refine skip_ (w1 := ?_) (by rfl) rfl ?_ ?_
  rotate_left
  ·go_simp
   rfl
  refine hK.out _ _ ⟨((cell_far (p := ⟨gb141, _, none⟩) NB150_141.out _).trans (((cell_far (p := ⟨gb141, _, none⟩) NB150_141.out _).trans (hHeld.1)))), ((cell_far (p := ⟨gb141, _, none⟩) NB150_141.out _).trans (((cell_far (p := ⟨gb141, _, none⟩) NB150_141.out _).trans (hHeld.2.1)))), ((cell_far (p := ⟨gb141, _, none⟩) NB156_141.out _).trans (((cell_far (p := ⟨gb141, _, none⟩) NB156_141.out _).trans (hHeld.2.2.1)))), ((cell_far (p := ⟨gb141, _, none⟩) NB156_141.out _).trans (((cell_far (p := ⟨gb141, _, none⟩) NB156_141.out _).trans (hHeld.2.2.2))))⟩ (fun hHeld => ?_)
  clear hK K
  refine done_ (by kernel_rfl) ?_
  try go_wp2
  refine bodyPost_ret (results_cc rfl _ _ gb140 gb141 25 25 #[.string t145, .slice Ao16 t146.length co16] #[.string t145, .slice Ao24 t152.length co24] (0, 0) (0, 0) _ _ rfl (by (with_reducible repeat (first | refine blk_drewN ?_ _ | refine blk_drew ?_ | refine blk_alloc ?_ _)); refine blk_far ?_ NB140_141.out _; (with_reducible repeat (first | refine blk_drewN ?_ _ | refine blk_drew ?_ | refine blk_alloc ?_ _)); refine blk_far ?_ NB140_141.out _; (with_reducible repeat (first | refine blk_drewN ?_ _ | refine blk_drew ?_ | refine blk_alloc ?_ _)); refine blk_put (cs := #[.string t145, .slice none 0 0]) ?_ 1 _ rfl; (with_reducible repeat (first | refine blk_drewN ?_ _ | refine blk_drew ?_ | refine blk_alloc ?_ _)); apply blk_put (i := 0); (case h => exact y2 BK140.out); (case e => rfl)) Try.underlying25 rfl (by kernel_rfl) rfl (by (with_reducible repeat (first | refine blk_drewN ?_ _ | refine blk_drew ?_ | refine blk_alloc ?_ _)); refine blk_put (cs := #[.string t145, .slice none 0 0]) ?_ 1 _ rfl; (with_reducible repeat (first | refine blk_drewN ?_ _ | refine blk_drew ?_ | refine blk_alloc ?_ _)); refine blk_put (cs := #[.string (⟨#[]⟩ : ByteArray), .slice none 0 0]) ?_ 0 _ rfl; (with_reducible repeat (first | refine blk_drewN ?_ _ | refine blk_drew ?_ | refine blk_alloc ?_ _)); refine blk_far ?_ NB141_140.out _; (with_reducible repeat (first | refine blk_drewN ?_ _ | refine blk_drew ?_ | refine blk_alloc ?_ _)); refine blk_far ?_ NB141_140.out _; (with_reducible repeat (first | refine blk_drewN ?_ _ | refine blk_drew ?_ | refine blk_alloc ?_ _)); exact BK141.out) Try.underlying25 rfl (by kernel_rfl)) rfl ?_
  exact ⟨_, _, y16, (by (with_reducible repeat (first | apply Kd.R_alloc | apply Kd.R_drewN | apply Kd.R_drew)); exact Kd.R_mono (Kd.R_far (p := ⟨gb141, 1, none⟩) (Kd.R_far (p := ⟨gb141, 0, none⟩) (Kd.R_far (p := ⟨gb140, 1, none⟩) (Kd.R_far (p := ⟨gb140, 0, none⟩) (Kd.R_types (Kd.R_types HO148.out BK140.out (by decide)) BK141.out (by decide)) (fun _ hk => hk.1.2) (.string t145)) (fun _ hk => hk.1.2) (.slice Ao16 t146.length co16)) (fun _ hk => hk.2) (.string t145)) (fun _ hk => hk.2) (.slice Ao24 t152.length co24)) (fun _ hk => hk.1.1)), (by (with_reducible repeat (first | apply Kd.R_alloc | apply Kd.R_drewN | apply Kd.R_drew)); exact Kd.R_mono (Kd.R_far (p := ⟨gb141, 1, none⟩) (Kd.R_far (p := ⟨gb141, 0, none⟩) (Kd.R_far (p := ⟨gb140, 1, none⟩) (Kd.R_far (p := ⟨gb140, 0, none⟩) (Kd.R_types (Kd.R_types HO154.out BK140.out (by decide)) BK141.out (by decide)) (fun _ hk => hk.1.2) (.string t145)) (fun _ hk => hk.1.2) (.slice Ao16 t146.length co16)) (fun _ hk => hk.2) (.string t145)) (fun _ hk => hk.2) (.slice Ao24 t152.length co24)) (fun _ hk => hk.1.1)), (y31 HB.out HI144.out GE140.out GE141.out GE150.out GE156.out)⟩
 ·rw [if_neg c26] at H
  have c26b0 : decide (0 < t157) = false := decide_eq_false c26
  clear c26
  (first | rw [c26b0] | (simp only [i64_w, i32_w]; rw [c26b0]) | skip)
  simp only [Option.some.injEq, Prod.mk.injEq] at H
  obtain ⟨rfl, rfl, rfl, rfl⟩ := H
  try go_wp2
  replace HO148 := Aside0.mk (Kd.R_drew HO148.out)
  replace HO154 := Aside0.mk (Kd.R_drew HO154.out)
  replace BK140 := Aside0.mk (blk_drew BK140.out)
  replace BK141 := Aside0.mk (blk_drew BK141.out)
  replace BK150 := Aside0.mk (blk_drew BK150.out)
  replace BK156 := Aside0.mk (blk_drew BK156.out)
  replace HI144 := Aside0.mk (IsS43.drew HI144.out)
  replace HB := Aside0.mk (below_drew1 HB.out)
  refine start_ (n := 4) (S := fun w' => w'.cell? ⟨gb150, 0, none⟩ = some (.string t145) ∧ w'.cell? ⟨gb150, 1, none⟩ = some (.slice Ao16 t146.length co16) ∧ w'.cell? ⟨gb156, 0, none⟩ = some (.string t151) ∧ w'.cell? ⟨gb156, 1, none⟩ = some (.slice Ao24 t152.length co24)) (ds := []) #[false, false, false, false] (by kernel_rfl) rfl rfl ⟨(blk_cell BK150.out 0).trans rfl, (blk_cell BK150.out 1).trans rfl, (blk_cell BK156.out 0).trans rfl, (blk_cell BK156.out 1).trans rfl⟩ (fun hHeld => ?_)
  generalize w25.drew = w42 at HO148 HO154 BK140 BK141 BK150 BK156 HI144 HB hHeld ⊢
  refine take_ (i := 0) (N := some 19) (v := ?_) (a' := ?_) #[true, false, false, false] rfl rfl (by kernel_rfl) (fun _ _ _ h => h) (Or.inl ⟨(by rfl), ?_⟩) hHeld ?_ ?_
  rotate_left
  ·rintro w' ⟨s0, s1, s2, s3⟩
   go_simp
   with_reducible rfl
  rotate_left
  ·simp only [Act.put, List.setIfInBounds_toArray, List.set_cons_zero, List.set_cons_succ, i64_w, i32_w]
   rfl
  refine take_ (i := 1) (N := some 20) (v := ?_) (a' := ?_) #[true, true, false, false] rfl rfl (by kernel_rfl) (fun _ _ _ h => h) (Or.inl ⟨(by rfl), ?_⟩) hHeld ?_ ?_
  rotate_left
  ·rintro w' ⟨s0, s1, s2, s3⟩
   go_simp
   with_reducible rfl
  rotate_left
  ·simp only [Act.put, List.setIfInBounds_toArray, List.set_cons_zero, List.set_cons_succ, i64_w, i32_w]
   rfl
  refine one_ (i := 2) (N := none) #[true, true, true, false] rfl rfl (by kernel_rfl) (by decide) (fun K hK => ?_)
  have hs43 : w42.cell? ⟨gb140, 0, none⟩ = some (.string (⟨#[]⟩ : ByteArray)) := (blk_cell BK140.out 0).trans rfl
  have hfs43 := zfr BK140 0
  have hns43_1 := NB141_140.out
  have hns43_2 := NB150_140.out
  have hns43_3 := NB156_140.out
  have hms43_1 := NB140_141.out
  have hms43_2 := NB140_150.out
  have hms43_3 := NB140_156.out
  have hs44 : w42.cell? ⟨gb140, 1, none⟩ = some (.slice none 0 0) := (blk_cell BK140.out 1).trans rfl
  have hfs44 := zfr BK140 1
  have hns44_1 := NB141_140.out
  have hns44_2 := NB150_140.out
  have hns44_3 := NB156_140.out
  have hms44_1 := NB140_141.out
  have hms44_2 := NB140_150.out
  have hms44_3 := NB140_156.out
  refine skip_ (w1 := ?_) (by rfl) rfl ?_ ?_
  rotate_left
  ·go_simp
   rfl
  refine hK.out _ _ ⟨((cell_far (p := ⟨gb140, _, none⟩) NB150_140.out _).trans (((cell_far (p := ⟨gb140, _, none⟩) NB150_140.out _).trans (hHeld.1)))), ((cell_far (p := ⟨gb140, _, none⟩) NB150_140.out _).trans (((cell_far (p := ⟨gb140, _, none⟩) NB150_140.out _).trans (hHeld.2.1)))), ((cell_far (p := ⟨gb140, _, none⟩) NB156_140.out _).trans (((cell_far (p := ⟨gb140, _, none⟩) NB156_140.out _).trans (hHeld.2.2.1)))), ((cell_far (p := ⟨gb140, _, none⟩) NB156_140.out _).trans (((cell_far (p := ⟨gb140, _, none⟩) NB156_140.out _).trans (hHeld.2.2.2))))⟩ (fun hHeld => ?_)
  clear hK K
  refine one_ (i := 3) (N := none) #[true, true, true, true] rfl rfl (by kernel_rfl) (by decide) (fun K hK => ?_)
  have hs45 : w42.cell? ⟨gb141, 0, none⟩ = some (.string (⟨#[]⟩ : ByteArray)) := (blk_cell BK141.out 0).trans rfl
  have hfs45 := zfr BK141 0
  have hns45_0 := NB140_141.out
  have hns45_2 := NB150_141.out
  have hns45_3 := NB156_141.out
  have hms45_0 := NB141_140.out
  have hms45_2 := NB141_150.out
  have hms45_3 := NB141_156.out
  have hs46 : w42.cell? ⟨gb141, 1, none⟩ = some (.slice none 0 0) := (blk_cell BK141.out 1).trans rfl
  have hfs46 := zfr BK141 1
  have hns46_0 := NB140_141.out
  have hns46_2 := NB150_141.out
  have hns46_3 := NB156_141.out
  have hms46_0 := NB141_140.out
  have hms46_2 := NB141_150.out
  have hms46_3 := NB141_156.out
  refine skip_ (w1 := ?_) (by rfl) rfl ?_ ?_
  rotate_left
  ·go_simp
   rfl
  refine hK.out _ _ ⟨((cell_far (p := ⟨gb141, _, none⟩) NB150_141.out _).trans (((cell_far (p := ⟨gb141, _, none⟩) NB150_141.out _).trans (hHeld.1)))), ((cell_far (p := ⟨gb141, _, none⟩) NB150_141.out _).trans (((cell_far (p := ⟨gb141, _, none⟩) NB150_141.out _).trans (hHeld.2.1)))), ((cell_far (p := ⟨gb141, _, none⟩) NB156_141.out _).trans (((cell_far (p := ⟨gb141, _, none⟩) NB156_141.out _).trans (hHeld.2.2.1)))), ((cell_far (p := ⟨gb141, _, none⟩) NB156_141.out _).trans (((cell_far (p := ⟨gb141, _, none⟩) NB156_141.out _).trans (hHeld.2.2.2))))⟩ (fun hHeld => ?_)
  clear hK K
  refine done_ (by kernel_rfl) ?_
  try go_wp2
  refine bodyPost_ret (results_cc rfl _ _ gb140 gb141 25 25 #[.string t145, .slice Ao16 t146.length co16] #[.string t151, .slice Ao24 t152.length co24] (0, 0) (0, 0) _ _ rfl (by (with_reducible repeat (first | refine blk_drewN ?_ _ | refine blk_drew ?_ | refine blk_alloc ?_ _)); refine blk_far ?_ NB140_141.out _; (with_reducible repeat (first | refine blk_drewN ?_ _ | refine blk_drew ?_ | refine blk_alloc ?_ _)); refine blk_far ?_ NB140_141.out _; (with_reducible repeat (first | refine blk_drewN ?_ _ | refine blk_drew ?_ | refine blk_alloc ?_ _)); refine blk_put (cs := #[.string t145, .slice none 0 0]) ?_ 1 _ rfl; (with_reducible repeat (first | refine blk_drewN ?_ _ | refine blk_drew ?_ | refine blk_alloc ?_ _)); apply blk_put (i := 0); (case h => exact y2 BK140.out); (case e => rfl)) Try.underlying25 rfl (by kernel_rfl) rfl (by (with_reducible repeat (first | refine blk_drewN ?_ _ | refine blk_drew ?_ | refine blk_alloc ?_ _)); refine blk_put (cs := #[.string t151, .slice none 0 0]) ?_ 1 _ rfl; (with_reducible repeat (first | refine blk_drewN ?_ _ | refine blk_drew ?_ | refine blk_alloc ?_ _)); refine blk_put (cs := #[.string (⟨#[]⟩ : ByteArray), .slice none 0 0]) ?_ 0 _ rfl; (with_reducible repeat (first | refine blk_drewN ?_ _ | refine blk_drew ?_ | refine blk_alloc ?_ _)); refine blk_far ?_ NB141_140.out _; (with_reducible repeat (first | refine blk_drewN ?_ _ | refine blk_drew ?_ | refine blk_alloc ?_ _)); refine blk_far ?_ NB141_140.out _; (with_reducible repeat (first | refine blk_drewN ?_ _ | refine blk_drew ?_ | refine blk_alloc ?_ _)); exact BK141.out) Try.underlying25 rfl (by kernel_rfl)) rfl ?_
  exact ⟨_, _, y16, (by (with_reducible repeat (first | apply Kd.R_alloc | apply Kd.R_drewN | apply Kd.R_drew)); exact Kd.R_mono (Kd.R_far (p := ⟨gb141, 1, none⟩) (Kd.R_far (p := ⟨gb141, 0, none⟩) (Kd.R_far (p := ⟨gb140, 1, none⟩) (Kd.R_far (p := ⟨gb140, 0, none⟩) (Kd.R_types (Kd.R_types HO148.out BK140.out (by decide)) BK141.out (by decide)) (fun _ hk => hk.1.2) (.string t145)) (fun _ hk => hk.1.2) (.slice Ao16 t146.length co16)) (fun _ hk => hk.2) (.string t151)) (fun _ hk => hk.2) (.slice Ao24 t152.length co24)) (fun _ hk => hk.1.1.2)), (by (with_reducible repeat (first | apply Kd.R_alloc | apply Kd.R_drewN | apply Kd.R_drew)); exact Kd.R_mono (Kd.R_far (p := ⟨gb141, 1, none⟩) (Kd.R_far (p := ⟨gb141, 0, none⟩) (Kd.R_far (p := ⟨gb140, 1, none⟩) (Kd.R_far (p := ⟨gb140, 0, none⟩) (Kd.R_types (Kd.R_types HO154.out BK140.out (by decide)) BK141.out (by decide)) (fun _ hk => hk.1.2) (.string t145)) (fun _ hk => hk.1.2) (.slice Ao16 t146.length co16)) (fun _ hk => hk.2) (.string t151)) (fun _ hk => hk.2) (.slice Ao24 t152.length co24)) (fun _ hk => hk.1.1.2)), (y31 HB.out HI144.out GE140.out GE141.out GE150.out GE156.out)⟩
end Go.Proofs.Ythhjdngailhihaa.PA
end
section
namespace Go.Proofs.Ythhjdngailhihaa.PA
open Go.RowKit Go.Proofs.YthhjdngailhihaaW.PrintWords Go.Proofs.YthhjdngailhihaaW.PrintLast Go.Proofs.YthhjdngailhihaaW.PrintMore
attribute [local go_sem] max2_int min2_int max_two min_two max_three min_three max_four min_four
set_option linter.unusedVariables false
set_option linter.unusedSimpArgs false
mutual
def impl_nameForm.j0 : Nat → ByteArray → Bool → Option (Bool)
 | 0, _, _ => none
 | k + 1, x0, x11 => if x11 = true then (some false) else (impl_nameForm.l0 k x0 (x0.size : Int) 0)
def impl_nameForm.l0 : Nat → ByteArray → Int → Int → Option (Bool)
 | 0, _, _, _ => none
 | k + 1, x0, x13, x14 => if x14 < x13 then (if 0 ≤ x14 then (if x14 < (x0.size : Int) then (if (bt x0 x14) < 97 then (some false) else (if (bt x0 x14) > 122 then (some false) else (impl_nameForm.l0 k x0 x13 (wrap64 (x14 + 1))))) else (none)) else (none)) else (some true)
end
def impl_nameForm.f (k : Nat) (a0 : ByteArray) : Option (Bool) := if (a0.size : Int) < 1 then (impl_nameForm.j0 k a0 true) else (impl_nameForm.j0 k a0 (decide ((a0.size : Int) > 6)))
theorem impl_nameForm.mono_l : ∀ k, (∀ y0 y1, LeO (impl_nameForm.j0 k y0 y1) (impl_nameForm.j0 (k + 1) y0 y1)) ∧ (∀ y0 y1 y2, LeO (impl_nameForm.l0 k y0 y1 y2) (impl_nameForm.l0 (k + 1) y0 y1 y2))
 | 0 => ⟨fun _ _ r h => by simp [impl_nameForm.j0] at h, fun _ _ _ r h => by simp [impl_nameForm.l0] at h⟩
 | k + 1 => by
  obtain ⟨ih0, ih1⟩ := impl_nameForm.mono_l k
  refine ⟨?_, ?_⟩
  ·intro y0 y1
   unfold impl_nameForm.j0
   repeat' first
   | (with_reducible exact ih0 _ _)
   | (with_reducible exact ih1 _ _ _)
   | (with_reducible exact LeO.refl _)
   | (with_reducible exact LeO.none _)
   | (with_reducible refine LeO.ite ?_ ?_)
   | (with_reducible refine LeO.bind ?_ (fun _ => ?_))
   | exact ih0 _ _
   | exact ih1 _ _ _
   | exact LeO.none _
   | refine LeO.ite ?_ ?_
   | refine LeO.bind ?_ (fun _ => ?_)
  ·intro y0 y1 y2
   unfold impl_nameForm.l0
   repeat' first
   | (with_reducible exact ih0 _ _)
   | (with_reducible exact ih1 _ _ _)
   | (with_reducible exact LeO.refl _)
   | (with_reducible exact LeO.none _)
   | (with_reducible refine LeO.ite ?_ ?_)
   | (with_reducible refine LeO.bind ?_ (fun _ => ?_))
   | exact ih0 _ _
   | exact ih1 _ _ _
   | exact LeO.none _
   | refine LeO.ite ?_ ?_
   | refine LeO.bind ?_ (fun _ => ?_)
theorem impl_nameForm.mono : ∀ a0 k, LeO (impl_nameForm.f k a0) (impl_nameForm.f (k + 1) a0) := by
 intro a0 k
 obtain ⟨ih0, ih1⟩ := impl_nameForm.mono_l k
 unfold impl_nameForm.f
 repeat' first
   | (with_reducible exact ih0 _ _)
   | (with_reducible exact ih1 _ _ _)
   | (with_reducible exact LeO.refl _)
   | (with_reducible exact LeO.none _)
   | (with_reducible refine LeO.ite ?_ ?_)
   | (with_reducible refine LeO.bind ?_ (fun _ => ?_))
   | exact ih0 _ _
   | exact ih1 _ _ _
   | exact LeO.none _
   | refine LeO.ite ?_ ?_
   | refine LeO.bind ?_ (fun _ => ?_)
set_option maxHeartbeats 8000000 in
set_option maxRecDepth 100000 in
theorem impl_nameForm.calls (k : Nat) (a0 : ByteArray) (r : Bool) (w : World) (h : impl_nameForm.f k a0 = some r) :
  Calls Try.prog 22 #[.string a0] w fun e w' => e = .returned (.bool r) ∧ Drawn0 w w' := by
 have H : (if (a0.size : Int) < 1 then (impl_nameForm.j0 k a0 true) else (impl_nameForm.j0 k a0 (decide ((a0.size : Int) > 6)))) = some r := h
 clear h
 have HC2 := Aside0.mk H
 clear H
 go_enter Try.func22, Try.ntmps22
 go_upto_region 1 with (fail)
 go_cut [11] (fun v11 wc => ∃ (kq : Nat) (x11_1 : Bool), v11 = .bool x11_1 ∧ Aside0 (impl_nameForm.j0 kq a0 x11_1 = some r) ∧ Aside0 (kq ≤ k) ∧ Drawn0 w wc)
 case first =>
  have H := HC2.out
  clear HC2
  by_cases c3 : (a0.size : Int) < 1
  ·rw [if_pos c3] at H
   have c3b0 : decide ((a0.size : Int) < 1) = true := decide_eq_true c3
   have c3b1 : decide (a0.size < 1) = true := decide_eq_true (by omega)
   clear c3
   (first | rw [c3b0] | (simp only [i64_w, i32_w]; rw [c3b0]) | skip)
   have H' := Aside0.mk H
   clear H
   go_wp2
   go_meet
   case rel => exact ⟨_, (true), y19, H', ⟨y57⟩, y22⟩
  ·rw [if_neg c3] at H
   have c3b0 : decide ((a0.size : Int) < 1) = false := decide_eq_false c3
   have c3b1 : decide (a0.size < 1) = false := decide_eq_false (by omega)
   clear c3
   (first | rw [c3b0] | (simp only [i64_w, i32_w]; rw [c3b0]) | skip)
   have H' := Aside0.mk H
   clear H
   go_wp2
   go_meet
   case rel => exact ⟨_, (decide ((a0.size : Int) > 6)), y19, H', ⟨y57⟩, y22⟩
 case rest =>
  clear HC2
  try clear c2
  try clear p2
  try clear c3
  try clear c3b0
  try clear c3b1
  obtain ⟨kq, x11_1, rfl, HA, HJ1, ⟨mc1, rfl⟩⟩ := hcut
  cases kq with
  | zero => exact absurd HA.out (by simp [impl_nameForm.j0])
  | succ kj1 =>
   have H := HA.out
   clear HA
   simp only [impl_nameForm.j0] at H
   by_cases c4 : x11_1 = true
   ·subst c4
    rw [if_pos rfl] at H
    obtain rfl := Option.some.inj H
    go_wp2
    go_ret
    exact ⟨y19, y22⟩
   ·replace c4 := Bool.eq_false_iff.mpr c4
    subst c4
    rw [if_neg (show ¬ (false = true) by decide)] at H
    have H' := Aside0.mk H
    clear H
    go_wp2
    go_loopg [14] kj1 (fun kq v14 w' => ∃ (x14_2 : Int), v14 = .int .i64 x14_2 ∧ Aside0 (impl_nameForm.l0 kq a0 (a0.size : Int) x14_2 = some r) ∧ Aside0 (kq ≤ kj1) ∧ Drawn0 w w')
    case atStart => exact ⟨(0), y19, H', ⟨Nat.le_refl _⟩, y22⟩
    case round =>
     clear H'
     try clear c1
     try clear c2
     try clear p2
     try clear c3
     try clear c3b0
     try clear c3b1
     try clear c4
     try clear p2
     obtain ⟨x14_2, rfl, HA, HK2, ⟨m2, rfl⟩⟩ := hrel
     cases gk with
     | zero => exact absurd HA.out (by simp [impl_nameForm.l0])
     | succ k2 =>
      have H := HA.out
      clear HA
      simp only [impl_nameForm.l0] at H
      by_cases c5 : x14_2 < (a0.size : Int)
      ·rw [if_pos c5] at H
       have c5b0 : decide (x14_2 < (a0.size : Int)) = true := decide_eq_true c5
       clear c5
       by_cases c6 : 0 ≤ x14_2
       ·rw [if_pos c6] at H
        have c6b0 : decide (0 ≤ x14_2) = true := decide_eq_true c6
        clear c6
        by_cases c7 : x14_2 < (a0.size : Int)
        ·rw [if_pos c7] at H
         have c7b0 : decide (x14_2 < (a0.size : Int)) = true := decide_eq_true c7
         clear c7
         by_cases c9 : (bt a0 x14_2) < 97
         ·rw [if_pos c9] at H
          have c9b0 : decide ((bt a0 x14_2) < 97) = true := decide_eq_true c9
          clear c9
          obtain rfl := Option.some.inj H
          have p8 : 0 ≤ (x14_2 : Int) := of_decide_eq_true y13
          have q8 : x14_2 < (a0.size : Int) := of_decide_eq_true y13
          have hx8 := bt_at a0 x14_2
          replace p8 := eq_true p8
          replace q8 := eq_true q8
          go_wp2
          go_ret
          exact ⟨y19, y22⟩
         ·rw [if_neg c9] at H
          have c9b0 : decide ((bt a0 x14_2) < 97) = false := decide_eq_false c9
          clear c9
          by_cases c11 : (bt a0 x14_2) > 122
          ·rw [if_pos c11] at H
           have c11b0 : decide (122 < (bt a0 x14_2)) = true := decide_eq_true c11
           clear c11
           obtain rfl := Option.some.inj H
           have p8 : 0 ≤ (x14_2 : Int) := of_decide_eq_true y13
           have q8 : x14_2 < (a0.size : Int) := of_decide_eq_true y13
           have hx8 := bt_at a0 x14_2
           replace p8 := eq_true p8
           replace q8 := eq_true q8
           have p10 : 0 ≤ (x14_2 : Int) := of_decide_eq_true y13
           have q10 : x14_2 < (a0.size : Int) := of_decide_eq_true y13
           have hx10 := bt_at a0 x14_2
           replace p10 := eq_true p10
           replace q10 := eq_true q10
           go_wp2
           go_ret
           exact ⟨y19, y22⟩
          ·rw [if_neg c11] at H
           have c11b0 : decide (122 < (bt a0 x14_2)) = false := decide_eq_false c11
           clear c11
           have H' := Aside0.mk H
           clear H
           have p8 : 0 ≤ (x14_2 : Int) := of_decide_eq_true y13
           have q8 : x14_2 < (a0.size : Int) := of_decide_eq_true y13
           have hx8 := bt_at a0 x14_2
           replace p8 := eq_true p8
           replace q8 := eq_true q8
           have p10 : 0 ≤ (x14_2 : Int) := of_decide_eq_true y13
           have q10 : x14_2 < (a0.size : Int) := of_decide_eq_true y13
           have hx10 := bt_at a0 x14_2
           replace p10 := eq_true p10
           replace q10 := eq_true q10
           go_wp2
           go_roundg k2
           case measure => have := HJ1.out; have := HK2.out; omega
           case rel => exact ⟨(wrap64 (x14_2 + 1)), y19, H', ⟨(by have := HJ1.out; have := HK2.out; omega)⟩, y22⟩
        ·rw [if_neg c7] at H
         exact absurd H (by simp)
       ·rw [if_neg c6] at H
        exact absurd H (by simp)
      ·rw [if_neg c5] at H
       have c5b0 : decide (x14_2 < (a0.size : Int)) = false := decide_eq_false c5
       clear c5
       obtain rfl := Option.some.inj H
       go_wp2
       go_ret
       exact ⟨y19, y22⟩
end Go.Proofs.Ythhjdngailhihaa.PA
end
section
namespace Go.Proofs.Ythhjdngailhihaa.PA
open Go.RowKit Go.Proofs.YthhjdngailhihaaW.PrintWords Go.Proofs.YthhjdngailhihaaW.PrintLast Go.Proofs.YthhjdngailhihaaW.PrintMore
attribute [local go_sem] max2_int min2_int max_two min_two max_three min_three max_four min_four
set_option linter.unusedVariables false
set_option linter.unusedSimpArgs false
def impl_pathForm.l0 : Nat → List Int → Int → Int → Option (Bool)
 | 0, _, _, _ => none
 | k + 1, x8, x9, x10 => if x10 < x9 then (if 0 ≤ x10 then (if x10 < (x8.length : Int) then (if (rd x8 x10) < 0 then (some false) else (if (rd x8 x10) > 1 then (some false) else (impl_pathForm.l0 k x8 x9 (wrap64 (x10 + 1))))) else (none)) else (none)) else (some true)
def impl_pathForm.f (k : Nat) (l0 : List Int) : Option (Bool) := if (l0.length : Int) > 4 then (some false) else (impl_pathForm.l0 k l0 (l0.length : Int) 0)
theorem impl_pathForm.mono_l : ∀ k, (∀ y0 y1 y2, LeO (impl_pathForm.l0 k y0 y1 y2) (impl_pathForm.l0 (k + 1) y0 y1 y2))
 | 0 => fun _ _ _ r h => by simp [impl_pathForm.l0] at h
 | k + 1 => by
  have ih0 := impl_pathForm.mono_l k
  ·intro y0 y1 y2
   unfold impl_pathForm.l0
   repeat' first
   | (with_reducible exact ih0 _ _ _)
   | (with_reducible exact LeO.refl _)
   | (with_reducible exact LeO.none _)
   | (with_reducible refine LeO.ite ?_ ?_)
   | (with_reducible refine LeO.bind ?_ (fun _ => ?_))
   | exact ih0 _ _ _
   | exact LeO.none _
   | refine LeO.ite ?_ ?_
   | refine LeO.bind ?_ (fun _ => ?_)
theorem impl_pathForm.mono : ∀ a0 k, LeO (impl_pathForm.f k a0) (impl_pathForm.f (k + 1) a0) := by
 intro a0 k
 have ih0 := impl_pathForm.mono_l k
 unfold impl_pathForm.f
 repeat' first
   | (with_reducible exact ih0 _ _ _)
   | (with_reducible exact LeO.refl _)
   | (with_reducible exact LeO.none _)
   | (with_reducible refine LeO.ite ?_ ?_)
   | (with_reducible refine LeO.bind ?_ (fun _ => ?_))
   | exact ih0 _ _ _
   | exact LeO.none _
   | refine LeO.ite ?_ ?_
   | refine LeO.bind ?_ (fun _ => ?_)
set_option maxHeartbeats 8000000 in
set_option maxRecDepth 100000 in
theorem impl_pathForm.calls (k : Nat) (A0 : Option Addr) (c0 : Nat) (l0 : List Int) (r : Bool) (w : World) (hr0 : Kd.C (Kd.int .i64) w A0 l0.length l0) (hc0 : l0.length ≤ c0) (h : impl_pathForm.f k l0 = some r) :
  Calls Try.prog 23 #[.slice A0 l0.length c0] w fun e w' => e = .returned (.bool r) ∧ Drawn0 w w' := by
 have HR0 := Aside0.mk hr0
 have HC0 := Aside0.mk hc0
 clear hr0 hc0
 have H : (if (l0.length : Int) > 4 then (some false) else (impl_pathForm.l0 k l0 (l0.length : Int) 0)) = some r := h
 clear h
 by_cases c2 : (l0.length : Int) > 4
 ·rw [if_pos c2] at H
  have c2b0 : decide (4 < (l0.length : Int)) = true := decide_eq_true c2
  have c2b1 : decide (4 < l0.length) = true := decide_eq_true (by omega)
  clear c2
  obtain rfl := Option.some.inj H
  go_enter Try.func23, Try.ntmps23
  go_wp2
  go_ret
  exact ⟨y19, y22⟩
 ·rw [if_neg c2] at H
  have c2b0 : decide (4 < (l0.length : Int)) = false := decide_eq_false c2
  have c2b1 : decide (4 < l0.length) = false := decide_eq_false (by omega)
  clear c2
  have H' := Aside0.mk H
  clear H
  go_enter Try.func23, Try.ntmps23
  go_wp2
  go_loopg [10] k (fun kq v10 w' => ∃ (x10_1 : Int), v10 = .int .i64 x10_1 ∧ Aside0 (impl_pathForm.l0 kq l0 (l0.length : Int) x10_1 = some r) ∧ Aside0 (kq ≤ k) ∧ Drawn0 w w')
  case atStart => exact ⟨(0), y19, H', ⟨Nat.le_refl _⟩, y22⟩
  case round =>
   clear H'
   try clear c2
   try clear c2b0
   try clear c2b1
   try clear p2
   obtain ⟨x10_1, rfl, HA, HK1, ⟨m1, rfl⟩⟩ := hrel
   cases gk with
   | zero => exact absurd HA.out (by simp [impl_pathForm.l0])
   | succ k1 =>
    have H := HA.out
    clear HA
    simp only [impl_pathForm.l0] at H
    by_cases c3 : x10_1 < (l0.length : Int)
    ·rw [if_pos c3] at H
     have c3b0 : decide (x10_1 < (l0.length : Int)) = true := decide_eq_true c3
     clear c3
     by_cases c4 : 0 ≤ x10_1
     ·rw [if_pos c4] at H
      have c4b0 : decide (0 ≤ x10_1) = true := decide_eq_true c4
      clear c4
      by_cases c5 : x10_1 < (l0.length : Int)
      ·rw [if_pos c5] at H
       have c5b0 : decide (x10_1 < (l0.length : Int)) = true := decide_eq_true c5
       clear c5
       by_cases c6 : (rd l0 x10_1) < 0
       ·rw [if_pos c6] at H
        have c6b0 : decide ((rd l0 x10_1) < 0) = true := decide_eq_true c6
        clear c6
        obtain rfl := Option.some.inj H
        have p159 : 0 ≤ (x10_1 : Int) := of_decide_eq_true y13
        have q159 : x10_1 < (l0.length : Int) := of_decide_eq_true y13
        obtain ⟨ad159, e159, hx159_0⟩ := Kd.at_int HR0.out x10_1 p159 q159
        cases e159
        replace p159 := eq_true p159
        replace q159 := eq_true q159
        go_wp2
        go_ret
        exact ⟨y19, y22⟩
       ·rw [if_neg c6] at H
        have c6b0 : decide ((rd l0 x10_1) < 0) = false := decide_eq_false c6
        clear c6
        by_cases c7 : (rd l0 x10_1) > 1
        ·rw [if_pos c7] at H
         have c7b0 : decide (1 < (rd l0 x10_1)) = true := decide_eq_true c7
         clear c7
         obtain rfl := Option.some.inj H
         have p159 : 0 ≤ (x10_1 : Int) := of_decide_eq_true y13
         have q159 : x10_1 < (l0.length : Int) := of_decide_eq_true y13
         obtain ⟨ad159, e159, hx159_0⟩ := Kd.at_int HR0.out x10_1 p159 q159
         cases e159
         replace p159 := eq_true p159
         replace q159 := eq_true q159
         go_wp2
         go_ret
         exact ⟨y19, y22⟩
        ·rw [if_neg c7] at H
         have c7b0 : decide (1 < (rd l0 x10_1)) = false := decide_eq_false c7
         clear c7
         have H' := Aside0.mk H
         clear H
         have p159 : 0 ≤ (x10_1 : Int) := of_decide_eq_true y13
         have q159 : x10_1 < (l0.length : Int) := of_decide_eq_true y13
         obtain ⟨ad159, e159, hx159_0⟩ := Kd.at_int HR0.out x10_1 p159 q159
         cases e159
         replace p159 := eq_true p159
         replace q159 := eq_true q159
         go_wp2
         go_roundg k1
         case measure => have := HK1.out; omega
         case rel => exact ⟨(wrap64 (x10_1 + 1)), y19, H', ⟨(y59 HK1.out)⟩, y22⟩
      ·rw [if_neg c5] at H
       exact absurd H (by simp)
     ·rw [if_neg c4] at H
      exact absurd H (by simp)
    ·rw [if_neg c3] at H
     have c3b0 : decide (x10_1 < (l0.length : Int)) = false := decide_eq_false c3
     clear c3
     obtain rfl := Option.some.inj H
     go_wp2
     go_ret
     exact ⟨y19, y22⟩
end Go.Proofs.Ythhjdngailhihaa.PA
end
section
namespace Go.Proofs.Ythhjdngailhihaa.PA
open Go.RowKit Go.Proofs.YthhjdngailhihaaW.PrintWords Go.Proofs.YthhjdngailhihaaW.PrintLast Go.Proofs.YthhjdngailhihaaW.PrintMore
attribute [local go_sem] max2_int min2_int max_two min_two max_three min_three max_four min_four
set_option linter.unusedVariables false
set_option linter.unusedSimpArgs false
def impl_placeForm.f (k : Nat) (a0_0 : ByteArray) (l0_1 : List Int) : Option (Bool) := (impl_nameForm.f k a0_0).bind fun t161 => (if t161 = true then ((impl_pathForm.f k l0_1).bind fun t162 => (some t162)) else (some false))
theorem impl_placeForm.mono : ∀ a0 a1 k, LeO (impl_placeForm.f k a0 a1) (impl_placeForm.f (k + 1) a0 a1) := by
 intro a0 a1 k
 unfold impl_placeForm.f
 repeat' first
   | (with_reducible exact impl_nameForm.mono _ _)
   | (with_reducible exact impl_pathForm.mono _ _)
   | (with_reducible exact LeO.refl _)
   | (with_reducible exact LeO.none _)
   | (with_reducible refine LeO.ite ?_ ?_)
   | (with_reducible refine LeO.bind ?_ (fun _ => ?_))
   | exact impl_nameForm.mono _ _
   | exact impl_pathForm.mono _ _
   | exact LeO.none _
   | refine LeO.ite ?_ ?_
   | refine LeO.bind ?_ (fun _ => ?_)
set_option maxHeartbeats 8000000 in
set_option maxRecDepth 100000 in
theorem impl_placeForm.calls (k : Nat) (a0_0 : ByteArray) (A0_1 : Option Addr) (c0_1 : Nat) (l0_1 : List Int) (r : Bool) (w : World) (hr0_1 : Kd.C (Kd.int .i64) w A0_1 l0_1.length l0_1) (hc0_1 : l0_1.length ≤ c0_1) (h : impl_placeForm.f k a0_0 l0_1 = some r) :
  Calls Try.prog 14 #[.agg #[.string a0_0, .slice A0_1 l0_1.length c0_1]] w fun e w' => e = .returned (.bool r) ∧ Below w.heap.size w w' := by
 have hu25 := Try.underlying25
 have HR0_1 := Aside0.mk hr0_1
 have HC0_1 := Aside0.mk hc0_1
 clear hr0_1 hc0_1
 have HB := Aside0.mk (Below.refl w.heap.size w)
 have H : ((impl_nameForm.f k a0_0).bind fun t161 => (if t161 = true then ((impl_pathForm.f k l0_1).bind fun t162 => (some t162)) else (some false))) = some r := h
 clear h
 obtain ⟨t161, A20, H⟩ := ob H
 have A2 := Aside0.mk A20
 clear A20
 by_cases c3 : t161 = true
 ·subst c3
  rw [if_pos rfl] at H
  obtain ⟨t162, A40, H⟩ := ob H
  have A4 := Aside0.mk A40
  clear A40
  obtain rfl := Option.some.inj H
  go_enter Try.func14, Try.ntmps14
  go_wp2_with (first | ((with_reducible refine gate_dst (N := 1) rfl ?_); refine zbx 1 #[.string a0_0, .slice A0_1 l0_1.length c0_1] 25 ?_; intro gb160 hg w5 hbox hb; have BK160 := Aside0.mk hbox; have GW160 := Aside0.mk ((y6 hg HB.out : w.heap.size ≤ gb160)); have GE160 := Aside0.mk ((y6 hg HB.out : w.heap.size ≤ gb160)); replace HB := Aside0.mk (below_step (y4 HB.out) hb); clear hb hbox hg; have hcz6_0 := zh BK160; have hcz6_1 := zh1 BK160; have hfz6_0 := zfr BK160 0; have hfz6_1 := zfr BK160 1) | ((with_reducible refine gate_callee (f := 22) rfl ?_); refine goesL_ (some 5) rfl rfl Try.func22 (by kernel_rfl) rfl #[.string a0_0] rfl y9 ?_; (with_reducible refine (impl_nameForm.calls k a0_0 true _ A2.out).mono ?_); rintro e w' ⟨rfl, ⟨nd, rfl⟩⟩; refine ⟨_, rfl, ?_⟩) | (go_at_call 23; (with_reducible refine (impl_pathForm.calls k _ _ l0_1 t162 _ ?side1 ?side2 A4.out).mono ?_); (case side1 => repeat (first | exact (Kd.C_below HR0_1.out (y3 HB.out GE160.out)) | (with_reducible refine Kd.C_alloc ?_ _) | (with_reducible refine Kd.C_drewN ?_ _) | (with_reducible refine Kd.C_drew ?_))); (case side2 => exact HC0_1.out); rintro e w' ⟨rfl, ⟨nd, rfl⟩⟩))
  go_ret
  exact ⟨y16, (y3 HB.out GE160.out)⟩
 ·replace c3 := Bool.eq_false_iff.mpr c3
  subst c3
  rw [if_neg (show ¬ (false = true) by decide)] at H
  obtain rfl := Option.some.inj H
  go_enter Try.func14, Try.ntmps14
  go_wp2_with (first | ((with_reducible refine gate_dst (N := 1) rfl ?_); refine zbx 1 #[.string a0_0, .slice A0_1 l0_1.length c0_1] 25 ?_; intro gb160 hg w7 hbox hb; have BK160 := Aside0.mk hbox; have GW160 := Aside0.mk ((y6 hg HB.out : w.heap.size ≤ gb160)); have GE160 := Aside0.mk ((y6 hg HB.out : w.heap.size ≤ gb160)); replace HB := Aside0.mk (below_step (y4 HB.out) hb); clear hb hbox hg; have hcz8_0 := zh BK160; have hcz8_1 := zh1 BK160; have hfz8_0 := zfr BK160 0; have hfz8_1 := zfr BK160 1) | ((with_reducible refine gate_callee (f := 22) rfl ?_); refine goesL_ (some 5) rfl rfl Try.func22 (by kernel_rfl) rfl #[.string a0_0] rfl y9 ?_; (with_reducible refine (impl_nameForm.calls k a0_0 false _ A2.out).mono ?_); rintro e w' ⟨rfl, ⟨nd, rfl⟩⟩; refine ⟨_, rfl, ?_⟩))
  go_ret
  exact ⟨y16, (y3 HB.out GE160.out)⟩
end Go.Proofs.Ythhjdngailhihaa.PA
end
section
namespace Go.Proofs.Ythhjdngailhihaa.PA
open Go.RowKit Go.Proofs.YthhjdngailhihaaW.PrintWords Go.Proofs.YthhjdngailhihaaW.PrintLast Go.Proofs.YthhjdngailhihaaW.PrintMore
attribute [local go_sem] max2_int min2_int max_two min_two max_three min_three max_four min_four
set_option linter.unusedVariables false
set_option linter.unusedSimpArgs false
def slices_Equal_int_int.l0 : Nat → List Int → List Int → Int → Int → Option (Bool)
 | 0, _, _, _, _ => none
 | k + 1, x0, x1, x12, x13 => if x13 < x12 then (if 0 ≤ x13 then (if x13 < (x0.length : Int) then (if x13 < (x1.length : Int) then (if (rd x0 x13) = (rd x1 x13) then (slices_Equal_int_int.l0 k x0 x1 x12 (wrap64 (x13 + 1))) else (some false)) else (none)) else (none)) else (none)) else (some true)
def slices_Equal_int_int.f (k : Nat) (l0 : List Int) (l1 : List Int) : Option (Bool) := if (l0.length : Int) = (l1.length : Int) then (slices_Equal_int_int.l0 k l0 l1 (l0.length : Int) 0) else (some false)
theorem slices_Equal_int_int.mono_l : ∀ k, (∀ y0 y1 y2 y3, LeO (slices_Equal_int_int.l0 k y0 y1 y2 y3) (slices_Equal_int_int.l0 (k + 1) y0 y1 y2 y3))
 | 0 => fun _ _ _ _ r h => by simp [slices_Equal_int_int.l0] at h
 | k + 1 => by
  have ih0 := slices_Equal_int_int.mono_l k
  ·intro y0 y1 y2 y3
   unfold slices_Equal_int_int.l0
   repeat' first
   | (with_reducible exact ih0 _ _ _ _)
   | (with_reducible exact LeO.refl _)
   | (with_reducible exact LeO.none _)
   | (with_reducible refine LeO.ite ?_ ?_)
   | (with_reducible refine LeO.bind ?_ (fun _ => ?_))
   | exact ih0 _ _ _ _
   | exact LeO.none _
   | refine LeO.ite ?_ ?_
   | refine LeO.bind ?_ (fun _ => ?_)
theorem slices_Equal_int_int.mono : ∀ a0 a1 k, LeO (slices_Equal_int_int.f k a0 a1) (slices_Equal_int_int.f (k + 1) a0 a1) := by
 intro a0 a1 k
 have ih0 := slices_Equal_int_int.mono_l k
 unfold slices_Equal_int_int.f
 repeat' first
   | (with_reducible exact ih0 _ _ _ _)
   | (with_reducible exact LeO.refl _)
   | (with_reducible exact LeO.none _)
   | (with_reducible refine LeO.ite ?_ ?_)
   | (with_reducible refine LeO.bind ?_ (fun _ => ?_))
   | exact ih0 _ _ _ _
   | exact LeO.none _
   | refine LeO.ite ?_ ?_
   | refine LeO.bind ?_ (fun _ => ?_)
set_option maxHeartbeats 8000000 in
set_option maxRecDepth 100000 in
theorem slices_Equal_int_int.calls (k : Nat) (A0 : Option Addr) (c0 : Nat) (l0 : List Int) (A1 : Option Addr) (c1 : Nat) (l1 : List Int) (r : Bool) (w : World) (hr0 : Kd.C (Kd.int .i64) w A0 l0.length l0) (hc0 : l0.length ≤ c0) (hr1 : Kd.C (Kd.int .i64) w A1 l1.length l1) (hc1 : l1.length ≤ c1) (h : slices_Equal_int_int.f k l0 l1 = some r) :
  Calls Try.prog 24 #[.slice A0 l0.length c0, .slice A1 l1.length c1] w fun e w' => e = .returned (.bool r) ∧ Drawn0 w w' := by
 have HR0 := Aside0.mk hr0
 have HC0 := Aside0.mk hc0
 clear hr0 hc0
 have HR1 := Aside0.mk hr1
 have HC1 := Aside0.mk hc1
 clear hr1 hc1
 have H : (if (l0.length : Int) = (l1.length : Int) then (slices_Equal_int_int.l0 k l0 l1 (l0.length : Int) 0) else (some false)) = some r := h
 clear h
 by_cases c3 : (l0.length : Int) = (l1.length : Int)
 ·rw [if_pos c3] at H
  have c3b0 : ((l0.length : Int) == (l1.length : Int)) = true := beq_iff_eq.mpr c3
  have c3b1 : ((l0.length : Int) != (l1.length : Int)) = false := bne_eq_false_iff_eq.mpr c3
  have c3b2 : (l0.length == l1.length) = true := by first | simpa using c3 | (simp at c3 ⊢; omega)
  clear c3
  have H' := Aside0.mk H
  clear H
  go_enter Try.func24, Try.ntmps24
  go_wp2
  repeat (go_quiet (fail); try go_wp2)
  go_loopg [13] k (fun kq v13 w' => ∃ (x13_1 : Int), v13 = .int .i64 x13_1 ∧ Aside0 (slices_Equal_int_int.l0 kq l0 l1 (l0.length : Int) x13_1 = some r) ∧ Aside0 (kq ≤ k) ∧ Drawn0 w w')
  case atStart => exact ⟨(0), y19, H', ⟨Nat.le_refl _⟩, y22⟩
  case round =>
   clear H'
   try clear c1
   try clear c2
   try clear p2
   try clear c3
   try clear c3b0
   try clear c3b1
   try clear c3b2
   obtain ⟨x13_1, rfl, HA, HK1, ⟨m1, rfl⟩⟩ := hrel
   cases gk with
   | zero => exact absurd HA.out (by simp [slices_Equal_int_int.l0])
   | succ k1 =>
    have H := HA.out
    clear HA
    simp only [slices_Equal_int_int.l0] at H
    by_cases c4 : x13_1 < (l0.length : Int)
    ·rw [if_pos c4] at H
     have c4b0 : decide (x13_1 < (l0.length : Int)) = true := decide_eq_true c4
     clear c4
     by_cases c5 : 0 ≤ x13_1
     ·rw [if_pos c5] at H
      have c5b0 : decide (0 ≤ x13_1) = true := decide_eq_true c5
      clear c5
      by_cases c6 : x13_1 < (l0.length : Int)
      ·rw [if_pos c6] at H
       have c6b0 : decide (x13_1 < (l0.length : Int)) = true := decide_eq_true c6
       clear c6
       by_cases c7 : x13_1 < (l1.length : Int)
       ·rw [if_pos c7] at H
        have c7b0 : decide (x13_1 < (l1.length : Int)) = true := decide_eq_true c7
        clear c7
        by_cases c8 : (rd l0 x13_1) = (rd l1 x13_1)
        ·rw [if_pos c8] at H
         have c8b0 : ((rd l0 x13_1) == (rd l1 x13_1)) = true := beq_iff_eq.mpr c8
         have c8b1 : ((rd l0 x13_1) != (rd l1 x13_1)) = false := bne_eq_false_iff_eq.mpr c8
         clear c8
         have H' := Aside0.mk H
         clear H
         have p163 : 0 ≤ (x13_1 : Int) := of_decide_eq_true y13
         have q163 : x13_1 < (l0.length : Int) := of_decide_eq_true y13
         obtain ⟨ad163, e163, hx163_0⟩ := Kd.at_int HR0.out x13_1 p163 q163
         cases e163
         replace p163 := eq_true p163
         replace q163 := eq_true q163
         have p164 : 0 ≤ (x13_1 : Int) := of_decide_eq_true y13
         have q164 : x13_1 < (l1.length : Int) := of_decide_eq_true y13
         obtain ⟨ad164, e164, hx164_0⟩ := Kd.at_int HR1.out x13_1 p164 q164
         cases e164
         replace p164 := eq_true p164
         replace q164 := eq_true q164
         go_wp2
         repeat (go_quiet (fail); try go_wp2)
         go_roundg k1
         case measure => have := HK1.out; omega
         case rel => exact ⟨(wrap64 (x13_1 + 1)), y19, H', ⟨(y59 HK1.out)⟩, y22⟩
        ·rw [if_neg c8] at H
         have c8b0 : ((rd l0 x13_1) == (rd l1 x13_1)) = false := beq_eq_false_iff_ne.mpr c8
         have c8b1 : ((rd l0 x13_1) != (rd l1 x13_1)) = true := bne_iff_ne.mpr c8
         obtain rfl := Option.some.inj H
         have p163 : 0 ≤ (x13_1 : Int) := of_decide_eq_true y13
         have q163 : x13_1 < (l0.length : Int) := of_decide_eq_true y13
         obtain ⟨ad163, e163, hx163_0⟩ := Kd.at_int HR0.out x13_1 p163 q163
         cases e163
         replace p163 := eq_true p163
         replace q163 := eq_true q163
         have p164 : 0 ≤ (x13_1 : Int) := of_decide_eq_true y13
         have q164 : x13_1 < (l1.length : Int) := of_decide_eq_true y13
         obtain ⟨ad164, e164, hx164_0⟩ := Kd.at_int HR1.out x13_1 p164 q164
         cases e164
         replace p164 := eq_true p164
         replace q164 := eq_true q164
         go_wp2
         repeat (go_quiet (fail); try go_wp2)
         go_ret
         exact ⟨y19, y22⟩
       ·rw [if_neg c7] at H
        exact absurd H (by simp)
      ·rw [if_neg c6] at H
       exact absurd H (by simp)
     ·rw [if_neg c5] at H
      exact absurd H (by simp)
    ·rw [if_neg c4] at H
     have c4b0 : decide (x13_1 < (l0.length : Int)) = false := decide_eq_false c4
     clear c4
     obtain rfl := Option.some.inj H
     go_wp2
     repeat (go_quiet (fail); try go_wp2)
     go_ret
     exact ⟨y19, y22⟩
 ·rw [if_neg c3] at H
  have c3b0 : ((l0.length : Int) == (l1.length : Int)) = false := beq_eq_false_iff_ne.mpr c3
  have c3b1 : ((l0.length : Int) != (l1.length : Int)) = true := bne_iff_ne.mpr c3
  have c3b2 : (l0.length == l1.length) = false := by first | simpa using c3 | (simp at c3 ⊢; omega)
  obtain rfl := Option.some.inj H
  go_enter Try.func24, Try.ntmps24
  go_wp2
  repeat (go_quiet (fail); try go_wp2)
  go_ret
  exact ⟨y19, y22⟩
end Go.Proofs.Ythhjdngailhihaa.PA
end
section
namespace Go.Proofs.Ythhjdngailhihaa.PA
open Go.RowKit Go.Proofs.YthhjdngailhihaaW.PrintWords Go.Proofs.YthhjdngailhihaaW.PrintLast Go.Proofs.YthhjdngailhihaaW.PrintMore
attribute [local go_sem] max2_int min2_int max_two min_two max_three min_three max_four min_four
set_option linter.unusedVariables false
set_option linter.unusedSimpArgs false
def impl_placesMeet.f (k : Nat) (a0_0 : ByteArray) (l0_1 : List Int) (a1_0 : ByteArray) (l1_1 : List Int) : Option (Bool) := if (l1_1.length : Int) < (l0_1.length : Int) then (if a0_0.toList = a1_0.toList then (if 0 ≤ (l1_1.length : Int) then (if (l1_1.length : Int) ≤ (l0_1.length : Int) then (if (l1_1.length : Int) ≤ (l1_1.length : Int) then ((slices_Equal_int_int.f k (l0_1.take ((l1_1.length : Int) : Int).toNat) (l1_1.take ((l1_1.length : Int) : Int).toNat)).bind fun t169 => (some t169)) else (none)) else (none)) else (none)) else (some false)) else (if a0_0.toList = a1_0.toList then (if 0 ≤ (l0_1.length : Int) then (if (l0_1.length : Int) ≤ (l0_1.length : Int) then (if (l0_1.length : Int) ≤ (l1_1.length : Int) then ((slices_Equal_int_int.f k (l0_1.take ((l0_1.length : Int) : Int).toNat) (l1_1.take ((l0_1.length : Int) : Int).toNat)).bind fun t172 => (some t172)) else (none)) else (none)) else (none)) else (some false))
theorem impl_placesMeet.mono : ∀ a0 a1 a2 a3 k, LeO (impl_placesMeet.f k a0 a1 a2 a3) (impl_placesMeet.f (k + 1) a0 a1 a2 a3) := by
 intro a0 a1 a2 a3 k
 unfold impl_placesMeet.f
 repeat' first
   | (with_reducible exact slices_Equal_int_int.mono _ _ _)
   | (with_reducible exact LeO.refl _)
   | (with_reducible exact LeO.none _)
   | (with_reducible refine LeO.ite ?_ ?_)
   | (with_reducible refine LeO.bind ?_ (fun _ => ?_))
   | exact slices_Equal_int_int.mono _ _ _
   | exact LeO.none _
   | refine LeO.ite ?_ ?_
   | refine LeO.bind ?_ (fun _ => ?_)
set_option maxHeartbeats 8000000 in
set_option maxRecDepth 100000 in
theorem impl_placesMeet.calls (k : Nat) (a0_0 : ByteArray) (A0_1 : Option Addr) (c0_1 : Nat) (l0_1 : List Int) (a1_0 : ByteArray) (A1_1 : Option Addr) (c1_1 : Nat) (l1_1 : List Int) (r : Bool) (w : World) (hr0_1 : Kd.C (Kd.int .i64) w A0_1 l0_1.length l0_1) (hc0_1 : l0_1.length ≤ c0_1) (hr1_1 : Kd.C (Kd.int .i64) w A1_1 l1_1.length l1_1) (hc1_1 : l1_1.length ≤ c1_1) (h : impl_placesMeet.f k a0_0 l0_1 a1_0 l1_1 = some r) :
  Calls Try.prog 15 #[.agg #[.string a0_0, .slice A0_1 l0_1.length c0_1], .agg #[.string a1_0, .slice A1_1 l1_1.length c1_1]] w fun e w' => e = .returned (.bool r) ∧ Below w.heap.size w w' := by
 have hu25 := Try.underlying25
 have HR0_1 := Aside0.mk hr0_1
 have HC0_1 := Aside0.mk hc0_1
 clear hr0_1 hc0_1
 have HR1_1 := Aside0.mk hr1_1
 have HC1_1 := Aside0.mk hc1_1
 clear hr1_1 hc1_1
 have HB := Aside0.mk (Below.refl w.heap.size w)
 have H : (if (l1_1.length : Int) < (l0_1.length : Int) then (if a0_0.toList = a1_0.toList then (if 0 ≤ (l1_1.length : Int) then (if (l1_1.length : Int) ≤ (l0_1.length : Int) then (if (l1_1.length : Int) ≤ (l1_1.length : Int) then ((slices_Equal_int_int.f k (l0_1.take ((l1_1.length : Int) : Int).toNat) (l1_1.take ((l1_1.length : Int) : Int).toNat)).bind fun t169 => (some t169)) else (none)) else (none)) else (none)) else (some false)) else (if a0_0.toList = a1_0.toList then (if 0 ≤ (l0_1.length : Int) then (if (l0_1.length : Int) ≤ (l0_1.length : Int) then (if (l0_1.length : Int) ≤ (l1_1.length : Int) then ((slices_Equal_int_int.f k (l0_1.take ((l0_1.length : Int) : Int).toNat) (l1_1.take ((l0_1.length : Int) : Int).toNat)).bind fun t172 => (some t172)) else (none)) else (none)) else (none)) else (some false))) = some r := h
 clear h
 by_cases c3 : (l1_1.length : Int) < (l0_1.length : Int)
 ·rw [if_pos c3] at H
  have c3i := eq_true c3
  have c3b0 : decide ((l1_1.length : Int) < (l0_1.length : Int)) = true := decide_eq_true c3
  have c3b1 : decide (l1_1.length < l0_1.length) = true := decide_eq_true (Int.ofNat_lt.mp c3)
  clear c3
  by_cases c4 : a0_0.toList = a1_0.toList
  ·rw [if_pos c4] at H
   have c4b0 : (a0_0.toList == a1_0.toList) = true := beq_iff_eq.mpr c4
   have c4b1 : (a0_0.toList != a1_0.toList) = false := bne_eq_false_iff_eq.mpr c4
   clear c4
   by_cases c5 : 0 ≤ (l1_1.length : Int)
   ·rw [if_pos c5] at H
    have c5b0 := eq_true c5
    have c5b1 : decide (0 ≤ (l1_1.length : Int)) = true := decide_eq_true c5
    clear c5
    by_cases c6 : (l1_1.length : Int) ≤ (l0_1.length : Int)
    ·rw [if_pos c6] at H
     have c6b0 := eq_true c6
     have c6b1 : decide ((l1_1.length : Int) ≤ (l0_1.length : Int)) = true := decide_eq_true c6
     clear c6
     have c7b0 := eq_true (of_decide_eq_true y13 : 0 ≤ (l1_1.length : Int))
     by_cases c8 : (l1_1.length : Int) ≤ (l1_1.length : Int)
     ·rw [if_pos c8] at H
      have c8b0 := eq_true c8
      have c8b1 : decide ((l1_1.length : Int) ≤ (l1_1.length : Int)) = true := decide_eq_true c8
      clear c8
      obtain ⟨t169, A90, H⟩ := ob H
      have A9 := Aside0.mk A90
      clear A90
      obtain rfl := Option.some.inj H
      go_enter Try.func15, Try.ntmps15
      go_wp2_with (first | ((with_reducible refine gate_dst (N := 2) rfl ?_); refine zbx 2 #[.string a0_0, .slice A0_1 l0_1.length c0_1] 25 ?_; intro gb165 hg w10 hbox hb; have BK165 := Aside0.mk hbox; have GW165 := Aside0.mk ((y6 hg HB.out : w.heap.size ≤ gb165)); have GE165 := Aside0.mk ((y6 hg HB.out : w.heap.size ≤ gb165)); replace HB := Aside0.mk (below_step (y4 HB.out) hb); clear hb hbox hg) | ((with_reducible refine gate_dst (N := 3) rfl ?_); refine zbx 3 #[.string a1_0, .slice A1_1 l1_1.length c1_1] 25 ?_; intro gb166 hg w11 hbox hb; have BK166 := Aside0.mk hbox; have GW166 := Aside0.mk ((y7 hg HB.out GE165.out : w.heap.size ≤ gb166)); have GE166 := Aside0.mk ((y7 hg HB.out GE165.out : w.heap.size ≤ gb166)); replace HB := Aside0.mk (below_step (y3 HB.out GE165.out) hb); have NB165_166 := zltn hg BK165; have NB166_165 := zgtn hg BK165; replace BK165 := zbb BK165 hb; clear hb hbox hg; have hnb12 := NB165_166.out; have hnc12 := NB166_165.out; have hcz13_0 := zh BK165; have hcz13_1 := zh1 BK165; have hfz13_0 := zfr BK165 0; have hfz13_1 := zfr BK165 1; have hcz14_0 := zh BK166; have hcz14_1 := zh1 BK166; have hfz14_0 := zfr BK166 0; have hfz14_1 := zfr BK166 1; obtain ⟨i015, hi015, _, hsz15, _⟩ := info_parts info3; obtain ⟨hcut15, hA15, hC15⟩ := print_take_of (P := Try.prog) (Value.int .i64) 0 23 3 .i64 Try.underlying23 hi015 hsz15 A0_1 c0_1 l0_1 (l1_1.length : Int) (of_decide_eq_true y13) (of_decide_eq_true y13) HC0_1.out; have HR167 := Aside0.mk (Kd.C_of_reads (h1 := fun _ => rfl) (hA15 _ (Kd.reads_of_C HR0_1.out))); have HC167 := Aside0.mk hC15; clear hA15 hC15 hi015 hsz15; obtain ⟨i016, hi016, _, hsz16, _⟩ := info_parts info3; obtain ⟨hcut16, hA16, hC16⟩ := print_take_of (P := Try.prog) (Value.int .i64) 0 23 3 .i64 Try.underlying23 hi016 hsz16 A1_1 c1_1 l1_1 (l1_1.length : Int) (of_decide_eq_true y13) (of_decide_eq_true y13) HC1_1.out; have HR168 := Aside0.mk (Kd.C_of_reads (h1 := fun _ => rfl) (hA16 _ (Kd.reads_of_C HR1_1.out))); have HC168 := Aside0.mk hC16; clear hA16 hC16 hi016 hsz16) | (go_at_call 24; refine calls_of_args (args' := #[.slice A0_1 (l0_1.take ((l1_1.length : Int) : Int).toNat).length c0_1, .slice A1_1 (l1_1.take ((l1_1.length : Int) : Int).toNat).length c1_1]) (by first | (simp; done) | rfl) ?_; (with_reducible refine (slices_Equal_int_int.calls k _ _ (l0_1.take ((l1_1.length : Int) : Int).toNat) _ _ (l1_1.take ((l1_1.length : Int) : Int).toNat) t169 _ ?side1 ?side2 ?side3 ?side4 A9.out).mono ?_); (case side1 => exact y10 HR167.out HB.out); (case side2 => exact HC167.out); (case side3 => exact y10 HR168.out HB.out); (case side4 => exact HC168.out); rintro e w' ⟨rfl, ⟨nd, rfl⟩⟩; (try first | exact ⟨rfl, _, World.drewN_drewN _ _ _⟩ | exact ⟨rfl, _, Eq.trans (World.drewN_drewN _ _ _) (congrArg (World.drewN _) (Nat.add_assoc _ _ _))⟩)))
      repeat (go_quiet (first | ((with_reducible refine gate_dst (N := 2) rfl ?_); refine zbx 2 #[.string a0_0, .slice A0_1 l0_1.length c0_1] 25 ?_; intro gb165 hg w10 hbox hb; have BK165 := Aside0.mk hbox; have GW165 := Aside0.mk ((y6 hg HB.out : w.heap.size ≤ gb165)); have GE165 := Aside0.mk ((y6 hg HB.out : w.heap.size ≤ gb165)); replace HB := Aside0.mk (below_step (y4 HB.out) hb); clear hb hbox hg) | ((with_reducible refine gate_dst (N := 3) rfl ?_); refine zbx 3 #[.string a1_0, .slice A1_1 l1_1.length c1_1] 25 ?_; intro gb166 hg w11 hbox hb; have BK166 := Aside0.mk hbox; have GW166 := Aside0.mk ((y7 hg HB.out GE165.out : w.heap.size ≤ gb166)); have GE166 := Aside0.mk ((y7 hg HB.out GE165.out : w.heap.size ≤ gb166)); replace HB := Aside0.mk (below_step (y3 HB.out GE165.out) hb); have NB165_166 := zltn hg BK165; have NB166_165 := zgtn hg BK165; replace BK165 := zbb BK165 hb; clear hb hbox hg; have hnb12 := NB165_166.out; have hnc12 := NB166_165.out; have hcz13_0 := zh BK165; have hcz13_1 := zh1 BK165; have hfz13_0 := zfr BK165 0; have hfz13_1 := zfr BK165 1; have hcz14_0 := zh BK166; have hcz14_1 := zh1 BK166; have hfz14_0 := zfr BK166 0; have hfz14_1 := zfr BK166 1; obtain ⟨i015, hi015, _, hsz15, _⟩ := info_parts info3; obtain ⟨hcut15, hA15, hC15⟩ := print_take_of (P := Try.prog) (Value.int .i64) 0 23 3 .i64 Try.underlying23 hi015 hsz15 A0_1 c0_1 l0_1 (l1_1.length : Int) (of_decide_eq_true y13) (of_decide_eq_true y13) HC0_1.out; have HR167 := Aside0.mk (Kd.C_of_reads (h1 := fun _ => rfl) (hA15 _ (Kd.reads_of_C HR0_1.out))); have HC167 := Aside0.mk hC15; clear hA15 hC15 hi015 hsz15; obtain ⟨i016, hi016, _, hsz16, _⟩ := info_parts info3; obtain ⟨hcut16, hA16, hC16⟩ := print_take_of (P := Try.prog) (Value.int .i64) 0 23 3 .i64 Try.underlying23 hi016 hsz16 A1_1 c1_1 l1_1 (l1_1.length : Int) (of_decide_eq_true y13) (of_decide_eq_true y13) HC1_1.out; have HR168 := Aside0.mk (Kd.C_of_reads (h1 := fun _ => rfl) (hA16 _ (Kd.reads_of_C HR1_1.out))); have HC168 := Aside0.mk hC16; clear hA16 hC16 hi016 hsz16) | (go_at_call 24; refine calls_of_args (args' := #[.slice A0_1 (l0_1.take ((l1_1.length : Int) : Int).toNat).length c0_1, .slice A1_1 (l1_1.take ((l1_1.length : Int) : Int).toNat).length c1_1]) (by first | (simp; done) | rfl) ?_; (with_reducible refine (slices_Equal_int_int.calls k _ _ (l0_1.take ((l1_1.length : Int) : Int).toNat) _ _ (l1_1.take ((l1_1.length : Int) : Int).toNat) t169 _ ?side1 ?side2 ?side3 ?side4 A9.out).mono ?_); (case side1 => exact y10 HR167.out HB.out); (case side2 => exact HC167.out); (case side3 => exact y10 HR168.out HB.out); (case side4 => exact HC168.out); rintro e w' ⟨rfl, ⟨nd, rfl⟩⟩; (try first | exact ⟨rfl, _, World.drewN_drewN _ _ _⟩ | exact ⟨rfl, _, Eq.trans (World.drewN_drewN _ _ _) (congrArg (World.drewN _) (Nat.add_assoc _ _ _))⟩))); try go_wp2_with (first | ((with_reducible refine gate_dst (N := 2) rfl ?_); refine zbx 2 #[.string a0_0, .slice A0_1 l0_1.length c0_1] 25 ?_; intro gb165 hg w10 hbox hb; have BK165 := Aside0.mk hbox; have GW165 := Aside0.mk ((y6 hg HB.out : w.heap.size ≤ gb165)); have GE165 := Aside0.mk ((y6 hg HB.out : w.heap.size ≤ gb165)); replace HB := Aside0.mk (below_step (y4 HB.out) hb); clear hb hbox hg) | ((with_reducible refine gate_dst (N := 3) rfl ?_); refine zbx 3 #[.string a1_0, .slice A1_1 l1_1.length c1_1] 25 ?_; intro gb166 hg w11 hbox hb; have BK166 := Aside0.mk hbox; have GW166 := Aside0.mk ((y7 hg HB.out GE165.out : w.heap.size ≤ gb166)); have GE166 := Aside0.mk ((y7 hg HB.out GE165.out : w.heap.size ≤ gb166)); replace HB := Aside0.mk (below_step (y3 HB.out GE165.out) hb); have NB165_166 := zltn hg BK165; have NB166_165 := zgtn hg BK165; replace BK165 := zbb BK165 hb; clear hb hbox hg; have hnb12 := NB165_166.out; have hnc12 := NB166_165.out; have hcz13_0 := zh BK165; have hcz13_1 := zh1 BK165; have hfz13_0 := zfr BK165 0; have hfz13_1 := zfr BK165 1; have hcz14_0 := zh BK166; have hcz14_1 := zh1 BK166; have hfz14_0 := zfr BK166 0; have hfz14_1 := zfr BK166 1; obtain ⟨i015, hi015, _, hsz15, _⟩ := info_parts info3; obtain ⟨hcut15, hA15, hC15⟩ := print_take_of (P := Try.prog) (Value.int .i64) 0 23 3 .i64 Try.underlying23 hi015 hsz15 A0_1 c0_1 l0_1 (l1_1.length : Int) (of_decide_eq_true y13) (of_decide_eq_true y13) HC0_1.out; have HR167 := Aside0.mk (Kd.C_of_reads (h1 := fun _ => rfl) (hA15 _ (Kd.reads_of_C HR0_1.out))); have HC167 := Aside0.mk hC15; clear hA15 hC15 hi015 hsz15; obtain ⟨i016, hi016, _, hsz16, _⟩ := info_parts info3; obtain ⟨hcut16, hA16, hC16⟩ := print_take_of (P := Try.prog) (Value.int .i64) 0 23 3 .i64 Try.underlying23 hi016 hsz16 A1_1 c1_1 l1_1 (l1_1.length : Int) (of_decide_eq_true y13) (of_decide_eq_true y13) HC1_1.out; have HR168 := Aside0.mk (Kd.C_of_reads (h1 := fun _ => rfl) (hA16 _ (Kd.reads_of_C HR1_1.out))); have HC168 := Aside0.mk hC16; clear hA16 hC16 hi016 hsz16) | (go_at_call 24; refine calls_of_args (args' := #[.slice A0_1 (l0_1.take ((l1_1.length : Int) : Int).toNat).length c0_1, .slice A1_1 (l1_1.take ((l1_1.length : Int) : Int).toNat).length c1_1]) (by first | (simp; done) | rfl) ?_; (with_reducible refine (slices_Equal_int_int.calls k _ _ (l0_1.take ((l1_1.length : Int) : Int).toNat) _ _ (l1_1.take ((l1_1.length : Int) : Int).toNat) t169 _ ?side1 ?side2 ?side3 ?side4 A9.out).mono ?_); (case side1 => exact y10 HR167.out HB.out); (case side2 => exact HC167.out); (case side3 => exact y10 HR168.out HB.out); (case side4 => exact HC168.out); rintro e w' ⟨rfl, ⟨nd, rfl⟩⟩; (try first | exact ⟨rfl, _, World.drewN_drewN _ _ _⟩ | exact ⟨rfl, _, Eq.trans (World.drewN_drewN _ _ _) (congrArg (World.drewN _) (Nat.add_assoc _ _ _))⟩))))
      go_ret
      exact ⟨y16, (y1 HB.out GE165.out GE166.out)⟩
     ·rw [if_neg c8] at H
      exact absurd H (by simp)
    ·rw [if_neg c6] at H
     exact absurd H (by simp)
   ·rw [if_neg c5] at H
    exact absurd H (by simp)
  ·rw [if_neg c4] at H
   have c4b0 : (a0_0.toList == a1_0.toList) = false := beq_eq_false_iff_ne.mpr c4
   have c4b1 : (a0_0.toList != a1_0.toList) = true := bne_iff_ne.mpr c4
   obtain rfl := Option.some.inj H
   go_enter Try.func15, Try.ntmps15
   go_wp2_with (first | ((with_reducible refine gate_dst (N := 2) rfl ?_); refine zbx 2 #[.string a0_0, .slice A0_1 l0_1.length c0_1] 25 ?_; intro gb165 hg w17 hbox hb; have BK165 := Aside0.mk hbox; have GW165 := Aside0.mk ((y6 hg HB.out : w.heap.size ≤ gb165)); have GE165 := Aside0.mk ((y6 hg HB.out : w.heap.size ≤ gb165)); replace HB := Aside0.mk (below_step (y4 HB.out) hb); clear hb hbox hg) | ((with_reducible refine gate_dst (N := 3) rfl ?_); refine zbx 3 #[.string a1_0, .slice A1_1 l1_1.length c1_1] 25 ?_; intro gb166 hg w18 hbox hb; have BK166 := Aside0.mk hbox; have GW166 := Aside0.mk ((y7 hg HB.out GE165.out : w.heap.size ≤ gb166)); have GE166 := Aside0.mk ((y7 hg HB.out GE165.out : w.heap.size ≤ gb166)); replace HB := Aside0.mk (below_step (y3 HB.out GE165.out) hb); have NB165_166 := zltn hg BK165; have NB166_165 := zgtn hg BK165; replace BK165 := zbb BK165 hb; clear hb hbox hg; have hnb19 := NB165_166.out; have hnc19 := NB166_165.out; have hcz20_0 := zh BK165; have hcz20_1 := zh1 BK165; have hfz20_0 := zfr BK165 0; have hfz20_1 := zfr BK165 1; have hcz21_0 := zh BK166; have hcz21_1 := zh1 BK166; have hfz21_0 := zfr BK166 0; have hfz21_1 := zfr BK166 1))
   repeat (go_quiet (first | ((with_reducible refine gate_dst (N := 2) rfl ?_); refine zbx 2 #[.string a0_0, .slice A0_1 l0_1.length c0_1] 25 ?_; intro gb165 hg w17 hbox hb; have BK165 := Aside0.mk hbox; have GW165 := Aside0.mk ((y6 hg HB.out : w.heap.size ≤ gb165)); have GE165 := Aside0.mk ((y6 hg HB.out : w.heap.size ≤ gb165)); replace HB := Aside0.mk (below_step (y4 HB.out) hb); clear hb hbox hg) | ((with_reducible refine gate_dst (N := 3) rfl ?_); refine zbx 3 #[.string a1_0, .slice A1_1 l1_1.length c1_1] 25 ?_; intro gb166 hg w18 hbox hb; have BK166 := Aside0.mk hbox; have GW166 := Aside0.mk ((y7 hg HB.out GE165.out : w.heap.size ≤ gb166)); have GE166 := Aside0.mk ((y7 hg HB.out GE165.out : w.heap.size ≤ gb166)); replace HB := Aside0.mk (below_step (y3 HB.out GE165.out) hb); have NB165_166 := zltn hg BK165; have NB166_165 := zgtn hg BK165; replace BK165 := zbb BK165 hb; clear hb hbox hg; have hnb19 := NB165_166.out; have hnc19 := NB166_165.out; have hcz20_0 := zh BK165; have hcz20_1 := zh1 BK165; have hfz20_0 := zfr BK165 0; have hfz20_1 := zfr BK165 1; have hcz21_0 := zh BK166; have hcz21_1 := zh1 BK166; have hfz21_0 := zfr BK166 0; have hfz21_1 := zfr BK166 1)); try go_wp2_with (first | ((with_reducible refine gate_dst (N := 2) rfl ?_); refine zbx 2 #[.string a0_0, .slice A0_1 l0_1.length c0_1] 25 ?_; intro gb165 hg w17 hbox hb; have BK165 := Aside0.mk hbox; have GW165 := Aside0.mk ((y6 hg HB.out : w.heap.size ≤ gb165)); have GE165 := Aside0.mk ((y6 hg HB.out : w.heap.size ≤ gb165)); replace HB := Aside0.mk (below_step (y4 HB.out) hb); clear hb hbox hg) | ((with_reducible refine gate_dst (N := 3) rfl ?_); refine zbx 3 #[.string a1_0, .slice A1_1 l1_1.length c1_1] 25 ?_; intro gb166 hg w18 hbox hb; have BK166 := Aside0.mk hbox; have GW166 := Aside0.mk ((y7 hg HB.out GE165.out : w.heap.size ≤ gb166)); have GE166 := Aside0.mk ((y7 hg HB.out GE165.out : w.heap.size ≤ gb166)); replace HB := Aside0.mk (below_step (y3 HB.out GE165.out) hb); have NB165_166 := zltn hg BK165; have NB166_165 := zgtn hg BK165; replace BK165 := zbb BK165 hb; clear hb hbox hg; have hnb19 := NB165_166.out; have hnc19 := NB166_165.out; have hcz20_0 := zh BK165; have hcz20_1 := zh1 BK165; have hfz20_0 := zfr BK165 0; have hfz20_1 := zfr BK165 1; have hcz21_0 := zh BK166; have hcz21_1 := zh1 BK166; have hfz21_0 := zfr BK166 0; have hfz21_1 := zfr BK166 1)))
   go_ret
   exact ⟨y16, (y1 HB.out GE165.out GE166.out)⟩
 ·rw [if_neg c3] at H
  have c3i := eq_false c3
  have c3b0 : decide ((l1_1.length : Int) < (l0_1.length : Int)) = false := decide_eq_false c3
  have c3b1 : decide (l1_1.length < l0_1.length) = false := decide_eq_false (fun h => c3 (Int.ofNat_lt.mpr h))
  clear c3
  by_cases c22 : a0_0.toList = a1_0.toList
  ·rw [if_pos c22] at H
   have c22b0 : (a0_0.toList == a1_0.toList) = true := beq_iff_eq.mpr c22
   have c22b1 : (a0_0.toList != a1_0.toList) = false := bne_eq_false_iff_eq.mpr c22
   clear c22
   by_cases c23 : 0 ≤ (l0_1.length : Int)
   ·rw [if_pos c23] at H
    have c23b0 := eq_true c23
    have c23b1 : decide (0 ≤ (l0_1.length : Int)) = true := decide_eq_true c23
    clear c23
    by_cases c24 : (l0_1.length : Int) ≤ (l0_1.length : Int)
    ·rw [if_pos c24] at H
     have c24b0 := eq_true c24
     have c24b1 : decide ((l0_1.length : Int) ≤ (l0_1.length : Int)) = true := decide_eq_true c24
     clear c24
     have c25b0 := eq_true (of_decide_eq_true y13 : 0 ≤ (l0_1.length : Int))
     by_cases c26 : (l0_1.length : Int) ≤ (l1_1.length : Int)
     ·rw [if_pos c26] at H
      have c26b0 := eq_true c26
      have c26b1 : decide ((l0_1.length : Int) ≤ (l1_1.length : Int)) = true := decide_eq_true c26
      clear c26
      obtain ⟨t172, A270, H⟩ := ob H
      have A27 := Aside0.mk A270
      clear A270
      obtain rfl := Option.some.inj H
      go_enter Try.func15, Try.ntmps15
      go_wp2_with (first | ((with_reducible refine gate_dst (N := 2) rfl ?_); refine zbx 2 #[.string a0_0, .slice A0_1 l0_1.length c0_1] 25 ?_; intro gb165 hg w28 hbox hb; have BK165 := Aside0.mk hbox; have GW165 := Aside0.mk ((y6 hg HB.out : w.heap.size ≤ gb165)); have GE165 := Aside0.mk ((y6 hg HB.out : w.heap.size ≤ gb165)); replace HB := Aside0.mk (below_step (y4 HB.out) hb); clear hb hbox hg) | ((with_reducible refine gate_dst (N := 3) rfl ?_); refine zbx 3 #[.string a1_0, .slice A1_1 l1_1.length c1_1] 25 ?_; intro gb166 hg w29 hbox hb; have BK166 := Aside0.mk hbox; have GW166 := Aside0.mk ((y7 hg HB.out GE165.out : w.heap.size ≤ gb166)); have GE166 := Aside0.mk ((y7 hg HB.out GE165.out : w.heap.size ≤ gb166)); replace HB := Aside0.mk (below_step (y3 HB.out GE165.out) hb); have NB165_166 := zltn hg BK165; have NB166_165 := zgtn hg BK165; replace BK165 := zbb BK165 hb; clear hb hbox hg; have hnb30 := NB165_166.out; have hnc30 := NB166_165.out; have hcz31_0 := zh BK165; have hcz31_1 := zh1 BK165; have hfz31_0 := zfr BK165 0; have hfz31_1 := zfr BK165 1; have hcz32_0 := zh BK166; have hcz32_1 := zh1 BK166; have hfz32_0 := zfr BK166 0; have hfz32_1 := zfr BK166 1; obtain ⟨i033, hi033, _, hsz33, _⟩ := info_parts info3; obtain ⟨hcut33, hA33, hC33⟩ := print_take_of (P := Try.prog) (Value.int .i64) 0 23 3 .i64 Try.underlying23 hi033 hsz33 A0_1 c0_1 l0_1 (l0_1.length : Int) (of_decide_eq_true y13) (of_decide_eq_true y13) HC0_1.out; have HR170 := Aside0.mk (Kd.C_of_reads (h1 := fun _ => rfl) (hA33 _ (Kd.reads_of_C HR0_1.out))); have HC170 := Aside0.mk hC33; clear hA33 hC33 hi033 hsz33; obtain ⟨i034, hi034, _, hsz34, _⟩ := info_parts info3; obtain ⟨hcut34, hA34, hC34⟩ := print_take_of (P := Try.prog) (Value.int .i64) 0 23 3 .i64 Try.underlying23 hi034 hsz34 A1_1 c1_1 l1_1 (l0_1.length : Int) (of_decide_eq_true y13) (of_decide_eq_true y13) HC1_1.out; have HR171 := Aside0.mk (Kd.C_of_reads (h1 := fun _ => rfl) (hA34 _ (Kd.reads_of_C HR1_1.out))); have HC171 := Aside0.mk hC34; clear hA34 hC34 hi034 hsz34) | (go_at_call 24; refine calls_of_args (args' := #[.slice A0_1 (l0_1.take ((l0_1.length : Int) : Int).toNat).length c0_1, .slice A1_1 (l1_1.take ((l0_1.length : Int) : Int).toNat).length c1_1]) (by first | (simp; done) | rfl) ?_; (with_reducible refine (slices_Equal_int_int.calls k _ _ (l0_1.take ((l0_1.length : Int) : Int).toNat) _ _ (l1_1.take ((l0_1.length : Int) : Int).toNat) t172 _ ?side1 ?side2 ?side3 ?side4 A27.out).mono ?_); (case side1 => exact y10 HR170.out HB.out); (case side2 => exact HC170.out); (case side3 => exact y10 HR171.out HB.out); (case side4 => exact HC171.out); rintro e w' ⟨rfl, ⟨nd, rfl⟩⟩; (try first | exact ⟨rfl, _, World.drewN_drewN _ _ _⟩ | exact ⟨rfl, _, Eq.trans (World.drewN_drewN _ _ _) (congrArg (World.drewN _) (Nat.add_assoc _ _ _))⟩)))
      repeat (go_quiet (first | ((with_reducible refine gate_dst (N := 2) rfl ?_); refine zbx 2 #[.string a0_0, .slice A0_1 l0_1.length c0_1] 25 ?_; intro gb165 hg w28 hbox hb; have BK165 := Aside0.mk hbox; have GW165 := Aside0.mk ((y6 hg HB.out : w.heap.size ≤ gb165)); have GE165 := Aside0.mk ((y6 hg HB.out : w.heap.size ≤ gb165)); replace HB := Aside0.mk (below_step (y4 HB.out) hb); clear hb hbox hg) | ((with_reducible refine gate_dst (N := 3) rfl ?_); refine zbx 3 #[.string a1_0, .slice A1_1 l1_1.length c1_1] 25 ?_; intro gb166 hg w29 hbox hb; have BK166 := Aside0.mk hbox; have GW166 := Aside0.mk ((y7 hg HB.out GE165.out : w.heap.size ≤ gb166)); have GE166 := Aside0.mk ((y7 hg HB.out GE165.out : w.heap.size ≤ gb166)); replace HB := Aside0.mk (below_step (y3 HB.out GE165.out) hb); have NB165_166 := zltn hg BK165; have NB166_165 := zgtn hg BK165; replace BK165 := zbb BK165 hb; clear hb hbox hg; have hnb30 := NB165_166.out; have hnc30 := NB166_165.out; have hcz31_0 := zh BK165; have hcz31_1 := zh1 BK165; have hfz31_0 := zfr BK165 0; have hfz31_1 := zfr BK165 1; have hcz32_0 := zh BK166; have hcz32_1 := zh1 BK166; have hfz32_0 := zfr BK166 0; have hfz32_1 := zfr BK166 1; obtain ⟨i033, hi033, _, hsz33, _⟩ := info_parts info3; obtain ⟨hcut33, hA33, hC33⟩ := print_take_of (P := Try.prog) (Value.int .i64) 0 23 3 .i64 Try.underlying23 hi033 hsz33 A0_1 c0_1 l0_1 (l0_1.length : Int) (of_decide_eq_true y13) (of_decide_eq_true y13) HC0_1.out; have HR170 := Aside0.mk (Kd.C_of_reads (h1 := fun _ => rfl) (hA33 _ (Kd.reads_of_C HR0_1.out))); have HC170 := Aside0.mk hC33; clear hA33 hC33 hi033 hsz33; obtain ⟨i034, hi034, _, hsz34, _⟩ := info_parts info3; obtain ⟨hcut34, hA34, hC34⟩ := print_take_of (P := Try.prog) (Value.int .i64) 0 23 3 .i64 Try.underlying23 hi034 hsz34 A1_1 c1_1 l1_1 (l0_1.length : Int) (of_decide_eq_true y13) (of_decide_eq_true y13) HC1_1.out; have HR171 := Aside0.mk (Kd.C_of_reads (h1 := fun _ => rfl) (hA34 _ (Kd.reads_of_C HR1_1.out))); have HC171 := Aside0.mk hC34; clear hA34 hC34 hi034 hsz34) | (go_at_call 24; refine calls_of_args (args' := #[.slice A0_1 (l0_1.take ((l0_1.length : Int) : Int).toNat).length c0_1, .slice A1_1 (l1_1.take ((l0_1.length : Int) : Int).toNat).length c1_1]) (by first | (simp; done) | rfl) ?_; (with_reducible refine (slices_Equal_int_int.calls k _ _ (l0_1.take ((l0_1.length : Int) : Int).toNat) _ _ (l1_1.take ((l0_1.length : Int) : Int).toNat) t172 _ ?side1 ?side2 ?side3 ?side4 A27.out).mono ?_); (case side1 => exact y10 HR170.out HB.out); (case side2 => exact HC170.out); (case side3 => exact y10 HR171.out HB.out); (case side4 => exact HC171.out); rintro e w' ⟨rfl, ⟨nd, rfl⟩⟩; (try first | exact ⟨rfl, _, World.drewN_drewN _ _ _⟩ | exact ⟨rfl, _, Eq.trans (World.drewN_drewN _ _ _) (congrArg (World.drewN _) (Nat.add_assoc _ _ _))⟩))); try go_wp2_with (first | ((with_reducible refine gate_dst (N := 2) rfl ?_); refine zbx 2 #[.string a0_0, .slice A0_1 l0_1.length c0_1] 25 ?_; intro gb165 hg w28 hbox hb; have BK165 := Aside0.mk hbox; have GW165 := Aside0.mk ((y6 hg HB.out : w.heap.size ≤ gb165)); have GE165 := Aside0.mk ((y6 hg HB.out : w.heap.size ≤ gb165)); replace HB := Aside0.mk (below_step (y4 HB.out) hb); clear hb hbox hg) | ((with_reducible refine gate_dst (N := 3) rfl ?_); refine zbx 3 #[.string a1_0, .slice A1_1 l1_1.length c1_1] 25 ?_; intro gb166 hg w29 hbox hb; have BK166 := Aside0.mk hbox; have GW166 := Aside0.mk ((y7 hg HB.out GE165.out : w.heap.size ≤ gb166)); have GE166 := Aside0.mk ((y7 hg HB.out GE165.out : w.heap.size ≤ gb166)); replace HB := Aside0.mk (below_step (y3 HB.out GE165.out) hb); have NB165_166 := zltn hg BK165; have NB166_165 := zgtn hg BK165; replace BK165 := zbb BK165 hb; clear hb hbox hg; have hnb30 := NB165_166.out; have hnc30 := NB166_165.out; have hcz31_0 := zh BK165; have hcz31_1 := zh1 BK165; have hfz31_0 := zfr BK165 0; have hfz31_1 := zfr BK165 1; have hcz32_0 := zh BK166; have hcz32_1 := zh1 BK166; have hfz32_0 := zfr BK166 0; have hfz32_1 := zfr BK166 1; obtain ⟨i033, hi033, _, hsz33, _⟩ := info_parts info3; obtain ⟨hcut33, hA33, hC33⟩ := print_take_of (P := Try.prog) (Value.int .i64) 0 23 3 .i64 Try.underlying23 hi033 hsz33 A0_1 c0_1 l0_1 (l0_1.length : Int) (of_decide_eq_true y13) (of_decide_eq_true y13) HC0_1.out; have HR170 := Aside0.mk (Kd.C_of_reads (h1 := fun _ => rfl) (hA33 _ (Kd.reads_of_C HR0_1.out))); have HC170 := Aside0.mk hC33; clear hA33 hC33 hi033 hsz33; obtain ⟨i034, hi034, _, hsz34, _⟩ := info_parts info3; obtain ⟨hcut34, hA34, hC34⟩ := print_take_of (P := Try.prog) (Value.int .i64) 0 23 3 .i64 Try.underlying23 hi034 hsz34 A1_1 c1_1 l1_1 (l0_1.length : Int) (of_decide_eq_true y13) (of_decide_eq_true y13) HC1_1.out; have HR171 := Aside0.mk (Kd.C_of_reads (h1 := fun _ => rfl) (hA34 _ (Kd.reads_of_C HR1_1.out))); have HC171 := Aside0.mk hC34; clear hA34 hC34 hi034 hsz34) | (go_at_call 24; refine calls_of_args (args' := #[.slice A0_1 (l0_1.take ((l0_1.length : Int) : Int).toNat).length c0_1, .slice A1_1 (l1_1.take ((l0_1.length : Int) : Int).toNat).length c1_1]) (by first | (simp; done) | rfl) ?_; (with_reducible refine (slices_Equal_int_int.calls k _ _ (l0_1.take ((l0_1.length : Int) : Int).toNat) _ _ (l1_1.take ((l0_1.length : Int) : Int).toNat) t172 _ ?side1 ?side2 ?side3 ?side4 A27.out).mono ?_); (case side1 => exact y10 HR170.out HB.out); (case side2 => exact HC170.out); (case side3 => exact y10 HR171.out HB.out); (case side4 => exact HC171.out); rintro e w' ⟨rfl, ⟨nd, rfl⟩⟩; (try first | exact ⟨rfl, _, World.drewN_drewN _ _ _⟩ | exact ⟨rfl, _, Eq.trans (World.drewN_drewN _ _ _) (congrArg (World.drewN _) (Nat.add_assoc _ _ _))⟩))))
      go_ret
      exact ⟨y16, (y1 HB.out GE165.out GE166.out)⟩
     ·rw [if_neg c26] at H
      exact absurd H (by simp)
    ·rw [if_neg c24] at H
     exact absurd H (by simp)
   ·rw [if_neg c23] at H
    exact absurd H (by simp)
  ·rw [if_neg c22] at H
   have c22b0 : (a0_0.toList == a1_0.toList) = false := beq_eq_false_iff_ne.mpr c22
   have c22b1 : (a0_0.toList != a1_0.toList) = true := bne_iff_ne.mpr c22
   obtain rfl := Option.some.inj H
   go_enter Try.func15, Try.ntmps15
   go_wp2_with (first | ((with_reducible refine gate_dst (N := 2) rfl ?_); refine zbx 2 #[.string a0_0, .slice A0_1 l0_1.length c0_1] 25 ?_; intro gb165 hg w35 hbox hb; have BK165 := Aside0.mk hbox; have GW165 := Aside0.mk ((y6 hg HB.out : w.heap.size ≤ gb165)); have GE165 := Aside0.mk ((y6 hg HB.out : w.heap.size ≤ gb165)); replace HB := Aside0.mk (below_step (y4 HB.out) hb); clear hb hbox hg) | ((with_reducible refine gate_dst (N := 3) rfl ?_); refine zbx 3 #[.string a1_0, .slice A1_1 l1_1.length c1_1] 25 ?_; intro gb166 hg w36 hbox hb; have BK166 := Aside0.mk hbox; have GW166 := Aside0.mk ((y7 hg HB.out GE165.out : w.heap.size ≤ gb166)); have GE166 := Aside0.mk ((y7 hg HB.out GE165.out : w.heap.size ≤ gb166)); replace HB := Aside0.mk (below_step (y3 HB.out GE165.out) hb); have NB165_166 := zltn hg BK165; have NB166_165 := zgtn hg BK165; replace BK165 := zbb BK165 hb; clear hb hbox hg; have hnb37 := NB165_166.out; have hnc37 := NB166_165.out; have hcz38_0 := zh BK165; have hcz38_1 := zh1 BK165; have hfz38_0 := zfr BK165 0; have hfz38_1 := zfr BK165 1; have hcz39_0 := zh BK166; have hcz39_1 := zh1 BK166; have hfz39_0 := zfr BK166 0; have hfz39_1 := zfr BK166 1))
   repeat (go_quiet (first | ((with_reducible refine gate_dst (N := 2) rfl ?_); refine zbx 2 #[.string a0_0, .slice A0_1 l0_1.length c0_1] 25 ?_; intro gb165 hg w35 hbox hb; have BK165 := Aside0.mk hbox; have GW165 := Aside0.mk ((y6 hg HB.out : w.heap.size ≤ gb165)); have GE165 := Aside0.mk ((y6 hg HB.out : w.heap.size ≤ gb165)); replace HB := Aside0.mk (below_step (y4 HB.out) hb); clear hb hbox hg) | ((with_reducible refine gate_dst (N := 3) rfl ?_); refine zbx 3 #[.string a1_0, .slice A1_1 l1_1.length c1_1] 25 ?_; intro gb166 hg w36 hbox hb; have BK166 := Aside0.mk hbox; have GW166 := Aside0.mk ((y7 hg HB.out GE165.out : w.heap.size ≤ gb166)); have GE166 := Aside0.mk ((y7 hg HB.out GE165.out : w.heap.size ≤ gb166)); replace HB := Aside0.mk (below_step (y3 HB.out GE165.out) hb); have NB165_166 := zltn hg BK165; have NB166_165 := zgtn hg BK165; replace BK165 := zbb BK165 hb; clear hb hbox hg; have hnb37 := NB165_166.out; have hnc37 := NB166_165.out; have hcz38_0 := zh BK165; have hcz38_1 := zh1 BK165; have hfz38_0 := zfr BK165 0; have hfz38_1 := zfr BK165 1; have hcz39_0 := zh BK166; have hcz39_1 := zh1 BK166; have hfz39_0 := zfr BK166 0; have hfz39_1 := zfr BK166 1)); try go_wp2_with (first | ((with_reducible refine gate_dst (N := 2) rfl ?_); refine zbx 2 #[.string a0_0, .slice A0_1 l0_1.length c0_1] 25 ?_; intro gb165 hg w35 hbox hb; have BK165 := Aside0.mk hbox; have GW165 := Aside0.mk ((y6 hg HB.out : w.heap.size ≤ gb165)); have GE165 := Aside0.mk ((y6 hg HB.out : w.heap.size ≤ gb165)); replace HB := Aside0.mk (below_step (y4 HB.out) hb); clear hb hbox hg) | ((with_reducible refine gate_dst (N := 3) rfl ?_); refine zbx 3 #[.string a1_0, .slice A1_1 l1_1.length c1_1] 25 ?_; intro gb166 hg w36 hbox hb; have BK166 := Aside0.mk hbox; have GW166 := Aside0.mk ((y7 hg HB.out GE165.out : w.heap.size ≤ gb166)); have GE166 := Aside0.mk ((y7 hg HB.out GE165.out : w.heap.size ≤ gb166)); replace HB := Aside0.mk (below_step (y3 HB.out GE165.out) hb); have NB165_166 := zltn hg BK165; have NB166_165 := zgtn hg BK165; replace BK165 := zbb BK165 hb; clear hb hbox hg; have hnb37 := NB165_166.out; have hnc37 := NB166_165.out; have hcz38_0 := zh BK165; have hcz38_1 := zh1 BK165; have hfz38_0 := zfr BK165 0; have hfz38_1 := zfr BK165 1; have hcz39_0 := zh BK166; have hcz39_1 := zh1 BK166; have hfz39_0 := zfr BK166 0; have hfz39_1 := zfr BK166 1)))
   go_ret
   exact ⟨y16, (y1 HB.out GE165.out GE166.out)⟩
end Go.Proofs.Ythhjdngailhihaa.PA
end
section
namespace Go.Proofs.Ythhjdngailhihaa.PA
open Go.RowKit Go.Proofs.YthhjdngailhihaaW.PrintWords Go.Proofs.YthhjdngailhihaaW.PrintLast Go.Proofs.YthhjdngailhihaaW.PrintMore
attribute [local go_sem] max2_int min2_int max_two min_two max_three min_three max_four min_four
set_option linter.unusedVariables false
set_option linter.unusedSimpArgs false
def impl_LendMeet.f (k : Nat) (a0_0 : ByteArray) (l0_1 : List Int) (a1_0 : ByteArray) (l1_1 : List Int) : Option (Bool) := (impl_placeForm.f k a0_0 l0_1).bind fun t175 => (if t175 = true then ((impl_placeForm.f k a1_0 l1_1).bind fun t176 => (if t176 = true then ((impl_placesMeet.f k a0_0 l0_1 a1_0 l1_1).bind fun t177 => (some t177)) else (some false))) else (some false))
theorem impl_LendMeet.mono : ∀ a0 a1 a2 a3 k, LeO (impl_LendMeet.f k a0 a1 a2 a3) (impl_LendMeet.f (k + 1) a0 a1 a2 a3) := by
 intro a0 a1 a2 a3 k
 unfold impl_LendMeet.f
 repeat' first
   | (with_reducible exact impl_placeForm.mono _ _ _)
   | (with_reducible exact impl_placesMeet.mono _ _ _ _ _)
   | (with_reducible exact LeO.refl _)
   | (with_reducible exact LeO.none _)
   | (with_reducible refine LeO.ite ?_ ?_)
   | (with_reducible refine LeO.bind ?_ (fun _ => ?_))
   | exact impl_placeForm.mono _ _ _
   | exact impl_placesMeet.mono _ _ _ _ _
   | exact LeO.none _
   | refine LeO.ite ?_ ?_
   | refine LeO.bind ?_ (fun _ => ?_)
set_option maxHeartbeats 8000000 in
set_option maxRecDepth 100000 in
theorem impl_LendMeet.calls (k : Nat) (a0_0 : ByteArray) (A0_1 : Option Addr) (c0_1 : Nat) (l0_1 : List Int) (a1_0 : ByteArray) (A1_1 : Option Addr) (c1_1 : Nat) (l1_1 : List Int) (r : Bool) (w : World) (hr0_1 : Kd.C (Kd.int .i64) w A0_1 l0_1.length l0_1) (hc0_1 : l0_1.length ≤ c0_1) (hr1_1 : Kd.C (Kd.int .i64) w A1_1 l1_1.length l1_1) (hc1_1 : l1_1.length ≤ c1_1) (h : impl_LendMeet.f k a0_0 l0_1 a1_0 l1_1 = some r) :
  Calls Try.prog 6 #[.agg #[.string a0_0, .slice A0_1 l0_1.length c0_1], .agg #[.string a1_0, .slice A1_1 l1_1.length c1_1]] w fun e w' => e = .returned (.bool r) ∧ Below w.heap.size w w' := by
 have hu25 := Try.underlying25
 have HR0_1 := Aside0.mk hr0_1
 have HC0_1 := Aside0.mk hc0_1
 clear hr0_1 hc0_1
 have HR1_1 := Aside0.mk hr1_1
 have HC1_1 := Aside0.mk hc1_1
 clear hr1_1 hc1_1
 have HB := Aside0.mk (Below.refl w.heap.size w)
 have H : ((impl_placeForm.f k a0_0 l0_1).bind fun t175 => (if t175 = true then ((impl_placeForm.f k a1_0 l1_1).bind fun t176 => (if t176 = true then ((impl_placesMeet.f k a0_0 l0_1 a1_0 l1_1).bind fun t177 => (some t177)) else (some false))) else (some false))) = some r := h
 clear h
 obtain ⟨t175, A30, H⟩ := ob H
 have A3 := Aside0.mk A30
 clear A30
 by_cases c4 : t175 = true
 ·subst c4
  rw [if_pos rfl] at H
  obtain ⟨t176, A50, H⟩ := ob H
  have A5 := Aside0.mk A50
  clear A50
  by_cases c6 : t176 = true
  ·subst c6
   rw [if_pos rfl] at H
   obtain ⟨t177, A70, H⟩ := ob H
   have A7 := Aside0.mk A70
   clear A70
   obtain rfl := Option.some.inj H
   go_enter Try.func6, Try.ntmps6
   go_wp2_with (first | ((with_reducible refine gate_dst (N := 2) rfl ?_); refine zbx 2 #[.string a0_0, .slice A0_1 l0_1.length c0_1] 25 ?_; intro gb173 hg w8 hbox hb; have BK173 := Aside0.mk hbox; have GW173 := Aside0.mk ((y6 hg HB.out : w.heap.size ≤ gb173)); have GE173 := Aside0.mk ((y6 hg HB.out : w.heap.size ≤ gb173)); replace HB := Aside0.mk (below_step (y4 HB.out) hb); clear hb hbox hg) | ((with_reducible refine gate_dst (N := 3) rfl ?_); refine zbx 3 #[.string a1_0, .slice A1_1 l1_1.length c1_1] 25 ?_; intro gb174 hg w9 hbox hb; have BK174 := Aside0.mk hbox; have GW174 := Aside0.mk ((y7 hg HB.out GE173.out : w.heap.size ≤ gb174)); have GE174 := Aside0.mk ((y7 hg HB.out GE173.out : w.heap.size ≤ gb174)); replace HB := Aside0.mk (below_step (y3 HB.out GE173.out) hb); have NB173_174 := zltn hg BK173; have NB174_173 := zgtn hg BK173; replace BK173 := zbb BK173 hb; clear hb hbox hg; have hnb10 := NB173_174.out; have hnc10 := NB174_173.out; have hcz11_0 := zh BK173; have hcz11_1 := zh1 BK173; have hfz11_0 := zfr BK173 0; have hfz11_1 := zfr BK173 1) | ((with_reducible refine gate_callee (f := 14) rfl ?_); refine goesL_ (some 6) rfl rfl Try.func14 (by kernel_rfl) rfl #[.agg #[.string a0_0, .slice A0_1 l0_1.length c0_1]] rfl y9 ?_; (with_reducible refine (impl_placeForm.calls k a0_0 _ _ l0_1 true _ ?side1 ?side2 A3.out).mono ?_); (case side1 => exact y10 HR0_1.out HB.out); (case side2 => exact HC0_1.out); rintro e w12 ⟨rfl, hb⟩; refine ⟨_, rfl, ?_⟩; replace BK173 := zbb BK173 hb; replace BK174 := zbb BK174 hb; replace HB := Aside0.mk (below_step (y1 HB.out GE173.out GE174.out) hb); (try clear hb); (try clear hb2); (try clear hk); (try clear hi); have hcz13_0 := zh BK174; have hcz13_1 := zh1 BK174; have hfz13_0 := zfr BK174 0; have hfz13_1 := zfr BK174 1) | (go_at_call 14; (with_reducible refine (impl_placeForm.calls k a1_0 _ _ l1_1 true _ ?side1 ?side2 A5.out).mono ?_); (case side1 => exact y10 HR1_1.out HB.out); (case side2 => exact HC1_1.out); rintro e w14 ⟨rfl, hb⟩; replace BK173 := zbb BK173 hb; replace BK174 := zbb BK174 hb; replace HB := Aside0.mk (below_step (y1 HB.out GE173.out GE174.out) hb); (try clear hb); (try clear hb2); (try clear hk); (try clear hi); have hcz15_0 := zh BK173; have hcz15_1 := zh1 BK173; have hfz15_0 := zfr BK173 0; have hfz15_1 := zfr BK173 1; have hcz16_0 := zh BK174; have hcz16_1 := zh1 BK174; have hfz16_0 := zfr BK174 0; have hfz16_1 := zfr BK174 1) | (go_at_call 15; (with_reducible refine (impl_placesMeet.calls k a0_0 _ _ l0_1 a1_0 _ _ l1_1 t177 _ ?side1 ?side2 ?side3 ?side4 A7.out).mono ?_); (case side1 => exact y10 HR0_1.out HB.out); (case side2 => exact HC0_1.out); (case side3 => exact y10 HR1_1.out HB.out); (case side4 => exact HC1_1.out); rintro e w17 ⟨rfl, hb⟩; replace BK173 := zbb BK173 hb; replace BK174 := zbb BK174 hb; replace HB := Aside0.mk (below_step (y1 HB.out GE173.out GE174.out) hb); (try clear hb); (try clear hb2); (try clear hk); (try clear hi)))
   go_ret
   exact ⟨y16, (y1 HB.out GE173.out GE174.out)⟩
  ·replace c6 := Bool.eq_false_iff.mpr c6
   subst c6
   rw [if_neg (show ¬ (false = true) by decide)] at H
   obtain rfl := Option.some.inj H
   go_enter Try.func6, Try.ntmps6
   go_wp2_with (first | ((with_reducible refine gate_dst (N := 2) rfl ?_); refine zbx 2 #[.string a0_0, .slice A0_1 l0_1.length c0_1] 25 ?_; intro gb173 hg w18 hbox hb; have BK173 := Aside0.mk hbox; have GW173 := Aside0.mk ((y6 hg HB.out : w.heap.size ≤ gb173)); have GE173 := Aside0.mk ((y6 hg HB.out : w.heap.size ≤ gb173)); replace HB := Aside0.mk (below_step (y4 HB.out) hb); clear hb hbox hg) | ((with_reducible refine gate_dst (N := 3) rfl ?_); refine zbx 3 #[.string a1_0, .slice A1_1 l1_1.length c1_1] 25 ?_; intro gb174 hg w19 hbox hb; have BK174 := Aside0.mk hbox; have GW174 := Aside0.mk ((y7 hg HB.out GE173.out : w.heap.size ≤ gb174)); have GE174 := Aside0.mk ((y7 hg HB.out GE173.out : w.heap.size ≤ gb174)); replace HB := Aside0.mk (below_step (y3 HB.out GE173.out) hb); have NB173_174 := zltn hg BK173; have NB174_173 := zgtn hg BK173; replace BK173 := zbb BK173 hb; clear hb hbox hg; have hnb20 := NB173_174.out; have hnc20 := NB174_173.out; have hcz21_0 := zh BK173; have hcz21_1 := zh1 BK173; have hfz21_0 := zfr BK173 0; have hfz21_1 := zfr BK173 1) | ((with_reducible refine gate_callee (f := 14) rfl ?_); refine goesL_ (some 6) rfl rfl Try.func14 (by kernel_rfl) rfl #[.agg #[.string a0_0, .slice A0_1 l0_1.length c0_1]] rfl y9 ?_; (with_reducible refine (impl_placeForm.calls k a0_0 _ _ l0_1 true _ ?side1 ?side2 A3.out).mono ?_); (case side1 => exact y10 HR0_1.out HB.out); (case side2 => exact HC0_1.out); rintro e w22 ⟨rfl, hb⟩; refine ⟨_, rfl, ?_⟩; replace BK173 := zbb BK173 hb; replace BK174 := zbb BK174 hb; replace HB := Aside0.mk (below_step (y1 HB.out GE173.out GE174.out) hb); (try clear hb); (try clear hb2); (try clear hk); (try clear hi); have hcz23_0 := zh BK174; have hcz23_1 := zh1 BK174; have hfz23_0 := zfr BK174 0; have hfz23_1 := zfr BK174 1) | (go_at_call 14; (with_reducible refine (impl_placeForm.calls k a1_0 _ _ l1_1 false _ ?side1 ?side2 A5.out).mono ?_); (case side1 => exact y10 HR1_1.out HB.out); (case side2 => exact HC1_1.out); rintro e w24 ⟨rfl, hb⟩; replace BK173 := zbb BK173 hb; replace BK174 := zbb BK174 hb; replace HB := Aside0.mk (below_step (y1 HB.out GE173.out GE174.out) hb); (try clear hb); (try clear hb2); (try clear hk); (try clear hi)))
   go_ret
   exact ⟨y16, (y1 HB.out GE173.out GE174.out)⟩
 ·replace c4 := Bool.eq_false_iff.mpr c4
  subst c4
  rw [if_neg (show ¬ (false = true) by decide)] at H
  obtain rfl := Option.some.inj H
  go_enter Try.func6, Try.ntmps6
  go_wp2_with (first | ((with_reducible refine gate_dst (N := 2) rfl ?_); refine zbx 2 #[.string a0_0, .slice A0_1 l0_1.length c0_1] 25 ?_; intro gb173 hg w25 hbox hb; have BK173 := Aside0.mk hbox; have GW173 := Aside0.mk ((y6 hg HB.out : w.heap.size ≤ gb173)); have GE173 := Aside0.mk ((y6 hg HB.out : w.heap.size ≤ gb173)); replace HB := Aside0.mk (below_step (y4 HB.out) hb); clear hb hbox hg) | ((with_reducible refine gate_dst (N := 3) rfl ?_); refine zbx 3 #[.string a1_0, .slice A1_1 l1_1.length c1_1] 25 ?_; intro gb174 hg w26 hbox hb; have BK174 := Aside0.mk hbox; have GW174 := Aside0.mk ((y7 hg HB.out GE173.out : w.heap.size ≤ gb174)); have GE174 := Aside0.mk ((y7 hg HB.out GE173.out : w.heap.size ≤ gb174)); replace HB := Aside0.mk (below_step (y3 HB.out GE173.out) hb); have NB173_174 := zltn hg BK173; have NB174_173 := zgtn hg BK173; replace BK173 := zbb BK173 hb; clear hb hbox hg; have hnb27 := NB173_174.out; have hnc27 := NB174_173.out; have hcz28_0 := zh BK173; have hcz28_1 := zh1 BK173; have hfz28_0 := zfr BK173 0; have hfz28_1 := zfr BK173 1) | ((with_reducible refine gate_callee (f := 14) rfl ?_); refine goesL_ (some 6) rfl rfl Try.func14 (by kernel_rfl) rfl #[.agg #[.string a0_0, .slice A0_1 l0_1.length c0_1]] rfl y9 ?_; (with_reducible refine (impl_placeForm.calls k a0_0 _ _ l0_1 false _ ?side1 ?side2 A3.out).mono ?_); (case side1 => exact y10 HR0_1.out HB.out); (case side2 => exact HC0_1.out); rintro e w29 ⟨rfl, hb⟩; refine ⟨_, rfl, ?_⟩; replace BK173 := zbb BK173 hb; replace BK174 := zbb BK174 hb; replace HB := Aside0.mk (below_step (y1 HB.out GE173.out GE174.out) hb); (try clear hb); (try clear hb2); (try clear hk); (try clear hi)))
  go_ret
  exact ⟨y16, (y1 HB.out GE173.out GE174.out)⟩
end Go.Proofs.Ythhjdngailhihaa.PA
end
section
namespace Go.Proofs.Ythhjdngailhihaa.PA
open Go.RowKit Go.Proofs.YthhjdngailhihaaW.PrintWords Go.Proofs.YthhjdngailhihaaW.PrintLast Go.Proofs.YthhjdngailhihaaW.PrintMore
attribute [local go_sem] max2_int min2_int max_two min_two max_three min_three max_four min_four
set_option linter.unusedVariables false
set_option linter.unusedSimpArgs false
mutual
def spec_l2Name.j0 : Nat → ByteArray → Bool → Option (Bool)
 | 0, _, _ => none
 | k + 1, x0, x11 => if x11 = true then (some false) else (spec_l2Name.l0 k x0 0)
def spec_l2Name.l0 : Nat → ByteArray → Int → Option (Bool)
 | 0, _, _ => none
 | k + 1, x0, x3 => if x3 < (x0.size : Int) then (if 0 ≤ x3 then (if (bt x0 x3) < 97 then (some false) else (if (bt x0 x3) > 122 then (some false) else (spec_l2Name.l0 k x0 (wrap64 (x3 + 1))))) else (none)) else (some true)
end
def spec_l2Name.f (k : Nat) (a0 : ByteArray) : Option (Bool) := if (a0.size : Int) < 1 then (spec_l2Name.j0 k a0 true) else (spec_l2Name.j0 k a0 (decide ((a0.size : Int) > 6)))
theorem spec_l2Name.mono_l : ∀ k, (∀ y0 y1, LeO (spec_l2Name.j0 k y0 y1) (spec_l2Name.j0 (k + 1) y0 y1)) ∧ (∀ y0 y1, LeO (spec_l2Name.l0 k y0 y1) (spec_l2Name.l0 (k + 1) y0 y1))
 | 0 => ⟨fun _ _ r h => by simp [spec_l2Name.j0] at h, fun _ _ r h => by simp [spec_l2Name.l0] at h⟩
 | k + 1 => by
  obtain ⟨ih0, ih1⟩ := spec_l2Name.mono_l k
  refine ⟨?_, ?_⟩
  ·intro y0 y1
   unfold spec_l2Name.j0
   repeat' first
   | (with_reducible exact ih0 _ _)
   | (with_reducible exact ih1 _ _)
   | (with_reducible exact LeO.refl _)
   | (with_reducible exact LeO.none _)
   | (with_reducible refine LeO.ite ?_ ?_)
   | (with_reducible refine LeO.bind ?_ (fun _ => ?_))
   | exact ih0 _ _
   | exact ih1 _ _
   | exact LeO.none _
   | refine LeO.ite ?_ ?_
   | refine LeO.bind ?_ (fun _ => ?_)
  ·intro y0 y1
   unfold spec_l2Name.l0
   repeat' first
   | (with_reducible exact ih0 _ _)
   | (with_reducible exact ih1 _ _)
   | (with_reducible exact LeO.refl _)
   | (with_reducible exact LeO.none _)
   | (with_reducible refine LeO.ite ?_ ?_)
   | (with_reducible refine LeO.bind ?_ (fun _ => ?_))
   | exact ih0 _ _
   | exact ih1 _ _
   | exact LeO.none _
   | refine LeO.ite ?_ ?_
   | refine LeO.bind ?_ (fun _ => ?_)
theorem spec_l2Name.mono : ∀ a0 k, LeO (spec_l2Name.f k a0) (spec_l2Name.f (k + 1) a0) := by
 intro a0 k
 obtain ⟨ih0, ih1⟩ := spec_l2Name.mono_l k
 unfold spec_l2Name.f
 repeat' first
   | (with_reducible exact ih0 _ _)
   | (with_reducible exact ih1 _ _)
   | (with_reducible exact LeO.refl _)
   | (with_reducible exact LeO.none _)
   | (with_reducible refine LeO.ite ?_ ?_)
   | (with_reducible refine LeO.bind ?_ (fun _ => ?_))
   | exact ih0 _ _
   | exact ih1 _ _
   | exact LeO.none _
   | refine LeO.ite ?_ ?_
   | refine LeO.bind ?_ (fun _ => ?_)
set_option maxHeartbeats 8000000 in
set_option maxRecDepth 100000 in
theorem spec_l2Name.calls (k : Nat) (a0 : ByteArray) (r : Bool) (w : World) (h : spec_l2Name.f k a0 = some r) :
  Calls Try.prog 25 #[.string a0] w fun e w' => e = .returned (.bool r) ∧ Drawn0 w w' := by
 have H : (if (a0.size : Int) < 1 then (spec_l2Name.j0 k a0 true) else (spec_l2Name.j0 k a0 (decide ((a0.size : Int) > 6)))) = some r := h
 clear h
 have HC2 := Aside0.mk H
 clear H
 go_enter Try.func25, Try.ntmps25
 go_upto_region 1 with (fail)
 go_cut [11] (fun v11 wc => ∃ (kq : Nat) (x11_1 : Bool), v11 = .bool x11_1 ∧ Aside0 (spec_l2Name.j0 kq a0 x11_1 = some r) ∧ Aside0 (kq ≤ k) ∧ Drawn0 w wc)
 case first =>
  have H := HC2.out
  clear HC2
  by_cases c3 : (a0.size : Int) < 1
  ·rw [if_pos c3] at H
   have c3b0 : decide ((a0.size : Int) < 1) = true := decide_eq_true c3
   have c3b1 : decide (a0.size < 1) = true := decide_eq_true (by omega)
   clear c3
   (first | rw [c3b0] | (simp only [i64_w, i32_w]; rw [c3b0]) | skip)
   have H' := Aside0.mk H
   clear H
   go_wp2
   go_meet
   case rel => exact ⟨_, (true), y19, H', ⟨y57⟩, y22⟩
  ·rw [if_neg c3] at H
   have c3b0 : decide ((a0.size : Int) < 1) = false := decide_eq_false c3
   have c3b1 : decide (a0.size < 1) = false := decide_eq_false (by omega)
   clear c3
   (first | rw [c3b0] | (simp only [i64_w, i32_w]; rw [c3b0]) | skip)
   have H' := Aside0.mk H
   clear H
   go_wp2
   go_meet
   case rel => exact ⟨_, (decide ((a0.size : Int) > 6)), y19, H', ⟨y57⟩, y22⟩
 case rest =>
  clear HC2
  try clear c2
  try clear p2
  try clear c3
  try clear c3b0
  try clear c3b1
  obtain ⟨kq, x11_1, rfl, HA, HJ1, ⟨mc1, rfl⟩⟩ := hcut
  cases kq with
  | zero => exact absurd HA.out (by simp [spec_l2Name.j0])
  | succ kj1 =>
   have H := HA.out
   clear HA
   simp only [spec_l2Name.j0] at H
   by_cases c4 : x11_1 = true
   ·subst c4
    rw [if_pos rfl] at H
    obtain rfl := Option.some.inj H
    go_wp2
    go_ret
    exact ⟨y19, y22⟩
   ·replace c4 := Bool.eq_false_iff.mpr c4
    subst c4
    rw [if_neg (show ¬ (false = true) by decide)] at H
    have H' := Aside0.mk H
    clear H
    go_wp2
    go_loopg [3] kj1 (fun kq v3 w' => ∃ (x3_2 : Int), v3 = .int .i64 x3_2 ∧ Aside0 (spec_l2Name.l0 kq a0 x3_2 = some r) ∧ Aside0 (kq ≤ kj1) ∧ Drawn0 w w')
    case atStart => exact ⟨(0), y19, H', ⟨Nat.le_refl _⟩, y22⟩
    case round =>
     clear H'
     try clear c1
     try clear c2
     try clear p2
     try clear c3
     try clear c3b0
     try clear c3b1
     try clear c4
     try clear p2
     obtain ⟨x3_2, rfl, HA, HK2, ⟨m2, rfl⟩⟩ := hrel
     cases gk with
     | zero => exact absurd HA.out (by simp [spec_l2Name.l0])
     | succ k2 =>
      have H := HA.out
      clear HA
      simp only [spec_l2Name.l0] at H
      by_cases c5 : x3_2 < (a0.size : Int)
      ·rw [if_pos c5] at H
       have c5b0 : decide (x3_2 < (a0.size : Int)) = true := decide_eq_true c5
       clear c5
       by_cases c6 : 0 ≤ x3_2
       ·rw [if_pos c6] at H
        have c6b0 : decide (0 ≤ x3_2) = true := decide_eq_true c6
        clear c6
        by_cases c8 : (bt a0 x3_2) < 97
        ·rw [if_pos c8] at H
         have c8b0 : decide ((bt a0 x3_2) < 97) = true := decide_eq_true c8
         clear c8
         obtain rfl := Option.some.inj H
         have p7 : 0 ≤ (x3_2 : Int) := of_decide_eq_true y13
         have q7 : x3_2 < (a0.size : Int) := of_decide_eq_true y13
         have hx7 := bt_at a0 x3_2
         replace p7 := eq_true p7
         replace q7 := eq_true q7
         go_wp2
         go_ret
         exact ⟨y19, y22⟩
        ·rw [if_neg c8] at H
         have c8b0 : decide ((bt a0 x3_2) < 97) = false := decide_eq_false c8
         clear c8
         by_cases c10 : (bt a0 x3_2) > 122
         ·rw [if_pos c10] at H
          have c10b0 : decide (122 < (bt a0 x3_2)) = true := decide_eq_true c10
          clear c10
          obtain rfl := Option.some.inj H
          have p7 : 0 ≤ (x3_2 : Int) := of_decide_eq_true y13
          have q7 : x3_2 < (a0.size : Int) := of_decide_eq_true y13
          have hx7 := bt_at a0 x3_2
          replace p7 := eq_true p7
          replace q7 := eq_true q7
          have p9 : 0 ≤ (x3_2 : Int) := of_decide_eq_true y13
          have q9 : x3_2 < (a0.size : Int) := of_decide_eq_true y13
          have hx9 := bt_at a0 x3_2
          replace p9 := eq_true p9
          replace q9 := eq_true q9
          go_wp2
          go_ret
          exact ⟨y19, y22⟩
         ·rw [if_neg c10] at H
          have c10b0 : decide (122 < (bt a0 x3_2)) = false := decide_eq_false c10
          clear c10
          have H' := Aside0.mk H
          clear H
          have p7 : 0 ≤ (x3_2 : Int) := of_decide_eq_true y13
          have q7 : x3_2 < (a0.size : Int) := of_decide_eq_true y13
          have hx7 := bt_at a0 x3_2
          replace p7 := eq_true p7
          replace q7 := eq_true q7
          have p9 : 0 ≤ (x3_2 : Int) := of_decide_eq_true y13
          have q9 : x3_2 < (a0.size : Int) := of_decide_eq_true y13
          have hx9 := bt_at a0 x3_2
          replace p9 := eq_true p9
          replace q9 := eq_true q9
          go_wp2
          go_roundg k2
          case measure => have := HJ1.out; have := HK2.out; omega
          case rel => exact ⟨(wrap64 (x3_2 + 1)), y19, H', ⟨(by have := HJ1.out; have := HK2.out; omega)⟩, y22⟩
       ·rw [if_neg c6] at H
        exact absurd H (by simp)
      ·rw [if_neg c5] at H
       have c5b0 : decide (x3_2 < (a0.size : Int)) = false := decide_eq_false c5
       clear c5
       obtain rfl := Option.some.inj H
       go_wp2
       go_ret
       exact ⟨y19, y22⟩
end Go.Proofs.Ythhjdngailhihaa.PA
end
section
namespace Go.Proofs.Ythhjdngailhihaa.PA
open Go.RowKit Go.Proofs.YthhjdngailhihaaW.PrintWords Go.Proofs.YthhjdngailhihaaW.PrintLast Go.Proofs.YthhjdngailhihaaW.PrintMore
attribute [local go_sem] max2_int min2_int max_two min_two max_three min_three max_four min_four
set_option linter.unusedVariables false
set_option linter.unusedSimpArgs false
def spec_l6In.f (a0 : Int) (a1 : Int) (a2 : Int) : Option (Bool) := if a0 ≥ a1 then (some (decide (a0 ≤ a2))) else (some false)
set_option maxHeartbeats 8000000 in
set_option maxRecDepth 100000 in
theorem spec_l6In.calls (a0 : Int) (a1 : Int) (a2 : Int) (r : Bool) (w : World) (h : spec_l6In.f a0 a1 a2 = some r) :
  Calls Try.prog 26 #[.int .i64 a0, .int .i64 a1, .int .i64 a2] w fun e w' => e = .returned (.bool r) ∧ Drawn0 w w' := by
 have H : (if a0 ≥ a1 then (some (decide (a0 ≤ a2))) else (some false)) = some r := h
 clear h
 by_cases c4 : a0 ≥ a1
 ·rw [if_pos c4] at H
  have c4b0 : decide (a1 ≤ a0) = true := decide_eq_true c4
  clear c4
  obtain rfl := Option.some.inj H
  go_enter Try.func26, Try.ntmps26
  go_wp2
  go_ret
  exact ⟨y19, y22⟩
 ·rw [if_neg c4] at H
  have c4b0 : decide (a1 ≤ a0) = false := decide_eq_false c4
  clear c4
  obtain rfl := Option.some.inj H
  go_enter Try.func26, Try.ntmps26
  go_wp2
  go_ret
  exact ⟨y19, y22⟩
end Go.Proofs.Ythhjdngailhihaa.PA
end
section
namespace Go.Proofs.Ythhjdngailhihaa.PA
open Go.RowKit Go.Proofs.YthhjdngailhihaaW.PrintWords Go.Proofs.YthhjdngailhihaaW.PrintLast Go.Proofs.YthhjdngailhihaaW.PrintMore
attribute [local go_sem] max2_int min2_int max_two min_two max_three min_three max_four min_four
set_option linter.unusedVariables false
set_option linter.unusedSimpArgs false
mutual
def spec_l2Place.j0 : Nat → Bool → ByteArray → List Int → Option (Bool)
 | 0, _, _, _ => none
 | k + 1, x13, x179000, x179001 => if x13 = true then (some false) else (spec_l2Place.l0 k 0 x179000 x179001)
def spec_l2Place.l0 : Nat → Int → ByteArray → List Int → Option (Bool)
 | 0, _, _, _ => none
 | k + 1, x3, x179000, x179001 => if x3 < (x179001.length : Int) then (if 0 ≤ x3 then ((spec_l6In.f (rd x179001 x3) 0 1).bind fun t181 => (if t181 = true then (spec_l2Place.l0 k (wrap64 (x3 + 1)) x179000 x179001) else (some false))) else (none)) else (some true)
end
def spec_l2Place.f (k : Nat) (a0_0 : ByteArray) (l0_1 : List Int) : Option (Bool) := (spec_l2Name.f k a0_0).bind fun t179 => (if t179 = true then (spec_l2Place.j0 k (decide ((l0_1.length : Int) > 4)) a0_0 l0_1) else (spec_l2Place.j0 k true a0_0 l0_1))
theorem spec_l2Place.mono_l : ∀ k, (∀ y0 y1 y2, LeO (spec_l2Place.j0 k y0 y1 y2) (spec_l2Place.j0 (k + 1) y0 y1 y2)) ∧ (∀ y0 y1 y2, LeO (spec_l2Place.l0 k y0 y1 y2) (spec_l2Place.l0 (k + 1) y0 y1 y2))
 | 0 => ⟨fun _ _ _ r h => by simp [spec_l2Place.j0] at h, fun _ _ _ r h => by simp [spec_l2Place.l0] at h⟩
 | k + 1 => by
  obtain ⟨ih0, ih1⟩ := spec_l2Place.mono_l k
  refine ⟨?_, ?_⟩
  ·intro y0 y1 y2
   unfold spec_l2Place.j0
   repeat' first
   | (with_reducible exact ih0 _ _ _)
   | (with_reducible exact ih1 _ _ _)
   | (with_reducible exact spec_l2Name.mono _ _)
   | (with_reducible exact LeO.refl _)
   | (with_reducible exact LeO.none _)
   | (with_reducible refine LeO.ite ?_ ?_)
   | (with_reducible refine LeO.bind ?_ (fun _ => ?_))
   | exact ih0 _ _ _
   | exact ih1 _ _ _
   | exact spec_l2Name.mono _ _
   | exact LeO.none _
   | refine LeO.ite ?_ ?_
   | refine LeO.bind ?_ (fun _ => ?_)
  ·intro y0 y1 y2
   unfold spec_l2Place.l0
   repeat' first
   | (with_reducible exact ih0 _ _ _)
   | (with_reducible exact ih1 _ _ _)
   | (with_reducible exact spec_l2Name.mono _ _)
   | (with_reducible exact LeO.refl _)
   | (with_reducible exact LeO.none _)
   | (with_reducible refine LeO.ite ?_ ?_)
   | (with_reducible refine LeO.bind ?_ (fun _ => ?_))
   | exact ih0 _ _ _
   | exact ih1 _ _ _
   | exact spec_l2Name.mono _ _
   | exact LeO.none _
   | refine LeO.ite ?_ ?_
   | refine LeO.bind ?_ (fun _ => ?_)
theorem spec_l2Place.mono : ∀ a0 a1 k, LeO (spec_l2Place.f k a0 a1) (spec_l2Place.f (k + 1) a0 a1) := by
 intro a0 a1 k
 obtain ⟨ih0, ih1⟩ := spec_l2Place.mono_l k
 unfold spec_l2Place.f
 repeat' first
   | (with_reducible exact ih0 _ _ _)
   | (with_reducible exact ih1 _ _ _)
   | (with_reducible exact spec_l2Name.mono _ _)
   | (with_reducible exact LeO.refl _)
   | (with_reducible exact LeO.none _)
   | (with_reducible refine LeO.ite ?_ ?_)
   | (with_reducible refine LeO.bind ?_ (fun _ => ?_))
   | exact ih0 _ _ _
   | exact ih1 _ _ _
   | exact spec_l2Name.mono _ _
   | exact LeO.none _
   | refine LeO.ite ?_ ?_
   | refine LeO.bind ?_ (fun _ => ?_)
set_option maxHeartbeats 8000000 in
set_option maxRecDepth 100000 in
theorem spec_l2Place.calls (k : Nat) (a0_0 : ByteArray) (A0_1 : Option Addr) (c0_1 : Nat) (l0_1 : List Int) (r : Bool) (w : World) (hr0_1 : Kd.C (Kd.int .i64) w A0_1 l0_1.length l0_1) (hc0_1 : l0_1.length ≤ c0_1) (h : spec_l2Place.f k a0_0 l0_1 = some r) :
  Calls Try.prog 16 #[.agg #[.string a0_0, .slice A0_1 l0_1.length c0_1]] w fun e w' => e = .returned (.bool r) ∧ Below w.heap.size w w' := by
 have hu25 := Try.underlying25
 have HR0_1 := Aside0.mk hr0_1
 have HC0_1 := Aside0.mk hc0_1
 clear hr0_1 hc0_1
 have HB := Aside0.mk (Below.refl w.heap.size w)
 have H : ((spec_l2Name.f k a0_0).bind fun t179 => (if t179 = true then (spec_l2Place.j0 k (decide ((l0_1.length : Int) > 4)) a0_0 l0_1) else (spec_l2Place.j0 k true a0_0 l0_1))) = some r := h
 clear h
 have HC2 := Aside0.mk H
 clear H
 go_enter Try.func16, Try.ntmps16
 go_upto_region 1 with (first | ((with_reducible refine gate_dst (N := 1) rfl ?_); (try (refine gate_guard (by rfl) ?_; dsimp only)); refine zbx 1 #[.string a0_0, .slice A0_1 l0_1.length c0_1] 25 ?_; intro gb178 hg w3 hbox hb; have BK178 := Aside0.mk hbox; have GW178 := Aside0.mk ((y6 hg HB.out : w.heap.size ≤ gb178)); have GE178 := Aside0.mk ((y6 hg HB.out : w.heap.size ≤ gb178)); replace HB := Aside0.mk (below_step (y4 HB.out) hb); clear hb hbox hg))
 (try simp only [Act.put, List.setIfInBounds_toArray, List.set_cons_zero, List.set_cons_succ])
 go_cut [13] (fun v13 wc => ∃ (kq : Nat) (x13_1 : Bool), v13 = .bool x13_1 ∧ Aside0 (spec_l2Place.j0 kq x13_1 a0_0 l0_1 = some r) ∧ Aside0 (kq ≤ k) ∧ Aside0 (wc.heap[gb178]? = some (.cells #[.string a0_0, (.slice A0_1 l0_1.length c0_1)] 25 (0, 0))) ∧ Aside0 (Below w.heap.size w wc))
 case first =>
  have H := HC2.out
  clear HC2
  obtain ⟨t179, A40, H⟩ := ob H
  have A4 := Aside0.mk A40
  clear A40
  by_cases c5 : t179 = true
  ·subst c5
   rw [if_pos rfl] at H
   have H' := Aside0.mk H
   clear H
   have hcz6_0 := zh BK178
   have hcz6_1 := zh1 BK178
   have hfz6_0 := zfr BK178 0
   have hfz6_1 := zfr BK178 1
   go_wp2_with (first | ((with_reducible refine gate_callee (f := 25) rfl ?_); refine goesL_ (some 6) rfl rfl Try.func25 (by kernel_rfl) rfl #[.string a0_0] rfl y9 ?_; (with_reducible refine (spec_l2Name.calls k a0_0 true _ A4.out).mono ?_); rintro e w' ⟨rfl, ⟨nd, rfl⟩⟩; refine ⟨_, rfl, ?_⟩))
   go_meet
   case rel => exact ⟨_, (decide ((l0_1.length : Int) > 4)), y19, H', ⟨y57⟩, ⟨(y2 BK178.out)⟩, ⟨(y3 HB.out GE178.out)⟩⟩
  ·replace c5 := Bool.eq_false_iff.mpr c5
   subst c5
   rw [if_neg (show ¬ (false = true) by decide)] at H
   have H' := Aside0.mk H
   clear H
   have hcz7_0 := zh BK178
   have hcz7_1 := zh1 BK178
   have hfz7_0 := zfr BK178 0
   have hfz7_1 := zfr BK178 1
   go_wp2_with (first | ((with_reducible refine gate_callee (f := 25) rfl ?_); refine goesL_ (some 6) rfl rfl Try.func25 (by kernel_rfl) rfl #[.string a0_0] rfl y9 ?_; (with_reducible refine (spec_l2Name.calls k a0_0 false _ A4.out).mono ?_); rintro e w' ⟨rfl, ⟨nd, rfl⟩⟩; refine ⟨_, rfl, ?_⟩))
   go_meet
   case rel => exact ⟨_, (true), y19, H', ⟨y57⟩, ⟨(y2 BK178.out)⟩, ⟨(y3 HB.out GE178.out)⟩⟩
 case rest =>
  clear HC2
  try clear c1
  try clear c2
  try clear p2
  try clear c5
  try clear hcz6_0
  try clear hcz6_1
  try clear hcz7_0
  try clear hcz7_1
  try clear hfz6_0
  try clear hfz6_1
  try clear hfz7_0
  try clear hfz7_1
  obtain ⟨kq, x13_1, rfl, HA, HJ1, BK178, HB⟩ := hcut
  cases kq with
  | zero => exact absurd HA.out (by simp [spec_l2Place.j0])
  | succ kj1 =>
   have H := HA.out
   clear HA
   simp only [spec_l2Place.j0] at H
   by_cases c8 : x13_1 = true
   ·subst c8
    rw [if_pos rfl] at H
    obtain rfl := Option.some.inj H
    go_wp2
    go_ret
    exact ⟨y16, (y3 HB.out GE178.out)⟩
   ·replace c8 := Bool.eq_false_iff.mpr c8
    subst c8
    rw [if_neg (show ¬ (false = true) by decide)] at H
    have H' := Aside0.mk H
    clear H
    go_wp2
    go_loopg [3] kj1 (fun kq v3 w' => ∃ (x3_2 : Int), v3 = .int .i64 x3_2 ∧ Aside0 (spec_l2Place.l0 kq x3_2 a0_0 l0_1 = some r) ∧ Aside0 (kq ≤ kj1) ∧ Aside0 (w'.heap[gb178]? = some (.cells #[.string a0_0, (.slice A0_1 l0_1.length c0_1)] 25 (0, 0))) ∧ Aside0 (Below w.heap.size w w'))
    case atStart => exact ⟨(0), y19, H', ⟨Nat.le_refl _⟩, ⟨(y2 BK178.out)⟩, ⟨(y3 HB.out GE178.out)⟩⟩
    case round =>
     clear H'
     try clear c1
     try clear c2
     try clear p2
     try clear c5
     try clear c8
     try clear hcz6_0
     try clear hcz6_1
     try clear hcz7_0
     try clear hcz7_1
     try clear hfz6_0
     try clear hfz6_1
     try clear hfz7_0
     try clear hfz7_1
     try clear p2
     (try clear BK178)
     obtain ⟨x3_2, rfl, HA, HK2, BK178, HB⟩ := hrel
     cases gk with
     | zero => exact absurd HA.out (by simp [spec_l2Place.l0])
     | succ k2 =>
      have H := HA.out
      clear HA
      simp only [spec_l2Place.l0] at H
      by_cases c9 : x3_2 < (l0_1.length : Int)
      ·rw [if_pos c9] at H
       have c9b0 : decide (x3_2 < (l0_1.length : Int)) = true := decide_eq_true c9
       clear c9
       by_cases c10 : 0 ≤ x3_2
       ·rw [if_pos c10] at H
        have c10b0 : decide (0 ≤ x3_2) = true := decide_eq_true c10
        clear c10
        obtain ⟨t181, A110, H⟩ := ob H
        have A11 := Aside0.mk A110
        clear A110
        have HZ12 := Aside0.mk H
        clear H
        have hcz13_0 := zh BK178
        have hcz13_1 := zh1 BK178
        have hfz13_0 := zfr BK178 0
        have hfz13_1 := zfr BK178 1
        have p180 : 0 ≤ (x3_2 : Int) := of_decide_eq_true y13
        have q180 : x3_2 < (l0_1.length : Int) := of_decide_eq_true y13
        obtain ⟨ad180, e180, hx180_0⟩ := Kd.at_int HR0_1.out x3_2 p180 q180
        cases e180
        replace hx180_0 := (HB.out.cell (World.block_lt_of_cell? w _ hx180_0)).trans hx180_0
        replace p180 := eq_true p180
        replace q180 := eq_true q180
        go_upto_if 27 with (first | ((with_reducible refine gate_callee (f := 26) rfl ?_); refine goesL_ (some 26) rfl rfl Try.func26 (by kernel_rfl) rfl #[.int .i64 (rd l0_1 x3_2), .int .i64 0, .int .i64 1] rfl y9 ?_; (with_reducible refine (spec_l6In.calls (rd l0_1 x3_2) 0 1 t181 _ A11.out).mono ?_); rintro e w' ⟨rfl, ⟨nd, rfl⟩⟩; refine ⟨_, rfl, ?_⟩))
        (try simp only [Act.put, List.setIfInBounds_toArray, List.set_cons_zero, List.set_cons_succ])
        have H := HZ12.out
        clear HZ12
        by_cases c14 : t181 = true
        ·subst c14
         rw [if_pos rfl] at H
         have H' := Aside0.mk H
         clear H
         go_wp2
         go_roundg k2
         case measure => have := HJ1.out; have := HK2.out; omega
         case rel => exact ⟨(wrap64 (x3_2 + 1)), y19, H', ⟨(by have := HJ1.out; have := HK2.out; omega)⟩, ⟨(y2 BK178.out)⟩, ⟨(y3 HB.out GE178.out)⟩⟩
        ·replace c14 := Bool.eq_false_iff.mpr c14
         subst c14
         rw [if_neg (show ¬ (false = true) by decide)] at H
         obtain rfl := Option.some.inj H
         go_wp2
         go_ret
         exact ⟨y16, (y3 HB.out GE178.out)⟩
       ·rw [if_neg c10] at H
        exact absurd H (by simp)
      ·rw [if_neg c9] at H
       have c9b0 : decide (x3_2 < (l0_1.length : Int)) = false := decide_eq_false c9
       clear c9
       obtain rfl := Option.some.inj H
       have hcz15_0 := zh BK178
       have hcz15_1 := zh1 BK178
       have hfz15_0 := zfr BK178 0
       have hfz15_1 := zfr BK178 1
       go_wp2
       go_ret
       exact ⟨y16, (y3 HB.out GE178.out)⟩
end Go.Proofs.Ythhjdngailhihaa.PA
end
section
namespace Go.Proofs.Ythhjdngailhihaa.PA
open Go.RowKit Go.Proofs.YthhjdngailhihaaW.PrintWords Go.Proofs.YthhjdngailhihaaW.PrintLast Go.Proofs.YthhjdngailhihaaW.PrintMore
attribute [local go_sem] max2_int min2_int max_two min_two max_three min_three max_four min_four
set_option linter.unusedVariables false
set_option linter.unusedSimpArgs false
mutual
def spec_l3Meet.l0 : Nat → Int → ByteArray → List Int → ByteArray → List Int → Option (Bool)
 | 0, _, _, _, _, _ => none
 | k + 1, x5, x183000, x183001, x184000, x184001 => if x5 < (x183001.length : Int) then (spec_l3Meet.j1 k x5 (decide (x5 < (x184001.length : Int))) x183000 x183001 x184000 x184001) else (spec_l3Meet.j1 k x5 false x183000 x183001 x184000 x184001)
def spec_l3Meet.j1 : Nat → Int → Bool → ByteArray → List Int → ByteArray → List Int → Option (Bool)
 | 0, _, _, _, _, _, _ => none
 | k + 1, x5, x22, x183000, x183001, x184000, x184001 => if x22 = true then (if 0 ≤ x5 then (if x5 < (x183001.length : Int) then (if x5 < (x184001.length : Int) then (if (rd x183001 x5) = (rd x184001 x5) then (spec_l3Meet.l0 k (wrap64 (x5 + 1)) x183000 x183001 x184000 x184001) else (some false)) else (none)) else (none)) else (none)) else (some true)
end
def spec_l3Meet.f (k : Nat) (a0_0 : ByteArray) (l0_1 : List Int) (a1_0 : ByteArray) (l1_1 : List Int) : Option (Bool) := if a0_0.toList = a1_0.toList then (spec_l3Meet.l0 k 0 a0_0 l0_1 a1_0 l1_1) else (some false)
theorem spec_l3Meet.mono_l : ∀ k, (∀ y0 y1 y2 y3 y4, LeO (spec_l3Meet.l0 k y0 y1 y2 y3 y4) (spec_l3Meet.l0 (k + 1) y0 y1 y2 y3 y4)) ∧ (∀ y0 y1 y2 y3 y4 y5, LeO (spec_l3Meet.j1 k y0 y1 y2 y3 y4 y5) (spec_l3Meet.j1 (k + 1) y0 y1 y2 y3 y4 y5))
 | 0 => ⟨fun _ _ _ _ _ r h => by simp [spec_l3Meet.l0] at h, fun _ _ _ _ _ _ r h => by simp [spec_l3Meet.j1] at h⟩
 | k + 1 => by
  obtain ⟨ih0, ih1⟩ := spec_l3Meet.mono_l k
  refine ⟨?_, ?_⟩
  ·intro y0 y1 y2 y3 y4
   unfold spec_l3Meet.l0
   repeat' first
   | (with_reducible exact ih0 _ _ _ _ _)
   | (with_reducible exact ih1 _ _ _ _ _ _)
   | (with_reducible exact LeO.refl _)
   | (with_reducible exact LeO.none _)
   | (with_reducible refine LeO.ite ?_ ?_)
   | (with_reducible refine LeO.bind ?_ (fun _ => ?_))
   | exact ih0 _ _ _ _ _
   | exact ih1 _ _ _ _ _ _
   | exact LeO.none _
   | refine LeO.ite ?_ ?_
   | refine LeO.bind ?_ (fun _ => ?_)
  ·intro y0 y1 y2 y3 y4 y5
   unfold spec_l3Meet.j1
   repeat' first
   | (with_reducible exact ih0 _ _ _ _ _)
   | (with_reducible exact ih1 _ _ _ _ _ _)
   | (with_reducible exact LeO.refl _)
   | (with_reducible exact LeO.none _)
   | (with_reducible refine LeO.ite ?_ ?_)
   | (with_reducible refine LeO.bind ?_ (fun _ => ?_))
   | exact ih0 _ _ _ _ _
   | exact ih1 _ _ _ _ _ _
   | exact LeO.none _
   | refine LeO.ite ?_ ?_
   | refine LeO.bind ?_ (fun _ => ?_)
theorem spec_l3Meet.mono : ∀ a0 a1 a2 a3 k, LeO (spec_l3Meet.f k a0 a1 a2 a3) (spec_l3Meet.f (k + 1) a0 a1 a2 a3) := by
 intro a0 a1 a2 a3 k
 obtain ⟨ih0, ih1⟩ := spec_l3Meet.mono_l k
 unfold spec_l3Meet.f
 repeat' first
   | (with_reducible exact ih0 _ _ _ _ _)
   | (with_reducible exact ih1 _ _ _ _ _ _)
   | (with_reducible exact LeO.refl _)
   | (with_reducible exact LeO.none _)
   | (with_reducible refine LeO.ite ?_ ?_)
   | (with_reducible refine LeO.bind ?_ (fun _ => ?_))
   | exact ih0 _ _ _ _ _
   | exact ih1 _ _ _ _ _ _
   | exact LeO.none _
   | refine LeO.ite ?_ ?_
   | refine LeO.bind ?_ (fun _ => ?_)
set_option maxHeartbeats 8000000 in
set_option maxRecDepth 100000 in
theorem spec_l3Meet.calls (k : Nat) (a0_0 : ByteArray) (A0_1 : Option Addr) (c0_1 : Nat) (l0_1 : List Int) (a1_0 : ByteArray) (A1_1 : Option Addr) (c1_1 : Nat) (l1_1 : List Int) (r : Bool) (w : World) (hr0_1 : Kd.C (Kd.int .i64) w A0_1 l0_1.length l0_1) (hc0_1 : l0_1.length ≤ c0_1) (hr1_1 : Kd.C (Kd.int .i64) w A1_1 l1_1.length l1_1) (hc1_1 : l1_1.length ≤ c1_1) (h : spec_l3Meet.f k a0_0 l0_1 a1_0 l1_1 = some r) :
  Calls Try.prog 17 #[.agg #[.string a0_0, .slice A0_1 l0_1.length c0_1], .agg #[.string a1_0, .slice A1_1 l1_1.length c1_1]] w fun e w' => e = .returned (.bool r) ∧ Below w.heap.size w w' := by
 have hu25 := Try.underlying25
 have HR0_1 := Aside0.mk hr0_1
 have HC0_1 := Aside0.mk hc0_1
 clear hr0_1 hc0_1
 have HR1_1 := Aside0.mk hr1_1
 have HC1_1 := Aside0.mk hc1_1
 clear hr1_1 hc1_1
 have HB := Aside0.mk (Below.refl w.heap.size w)
 have H : (if a0_0.toList = a1_0.toList then (spec_l3Meet.l0 k 0 a0_0 l0_1 a1_0 l1_1) else (some false)) = some r := h
 clear h
 have HZ3 := Aside0.mk H
 clear H
 go_enter Try.func17, Try.ntmps17
 go_upto_if 10 with (first | ((with_reducible refine gate_dst (N := 2) rfl ?_); (try (refine gate_guard (by rfl) ?_; dsimp only)); refine zbx 2 #[.string a0_0, .slice A0_1 l0_1.length c0_1] 25 ?_; intro gb182 hg w4 hbox hb; have BK182 := Aside0.mk hbox; have GW182 := Aside0.mk ((y6 hg HB.out : w.heap.size ≤ gb182)); have GE182 := Aside0.mk ((y6 hg HB.out : w.heap.size ≤ gb182)); replace HB := Aside0.mk (below_step (y4 HB.out) hb); clear hb hbox hg) | ((with_reducible refine gate_dst (N := 3) rfl ?_); (try (refine gate_guard (by rfl) ?_; dsimp only)); refine zbx 3 #[.string a1_0, .slice A1_1 l1_1.length c1_1] 25 ?_; intro gb183 hg w5 hbox hb; have BK183 := Aside0.mk hbox; have GW183 := Aside0.mk ((y7 hg HB.out GE182.out : w.heap.size ≤ gb183)); have GE183 := Aside0.mk ((y7 hg HB.out GE182.out : w.heap.size ≤ gb183)); replace HB := Aside0.mk (below_step (y3 HB.out GE182.out) hb); have NB182_183 := zltn hg BK182; have NB183_182 := zgtn hg BK182; replace BK182 := zbb BK182 hb; clear hb hbox hg; have hnb6 := NB182_183.out; have hnc6 := NB183_182.out; have hcz7_0 := zh BK182; have hcz7_1 := zh1 BK182; have hfz7_0 := zfr BK182 0; have hfz7_1 := zfr BK182 1; have hcz8_0 := zh BK183; have hcz8_1 := zh1 BK183; have hfz8_0 := zfr BK183 0; have hfz8_1 := zfr BK183 1))
 repeat (go_quiet (first | ((with_reducible refine gate_dst (N := 2) rfl ?_); (try (refine gate_guard (by rfl) ?_; dsimp only)); refine zbx 2 #[.string a0_0, .slice A0_1 l0_1.length c0_1] 25 ?_; intro gb182 hg w4 hbox hb; have BK182 := Aside0.mk hbox; have GW182 := Aside0.mk ((y6 hg HB.out : w.heap.size ≤ gb182)); have GE182 := Aside0.mk ((y6 hg HB.out : w.heap.size ≤ gb182)); replace HB := Aside0.mk (below_step (y4 HB.out) hb); clear hb hbox hg) | ((with_reducible refine gate_dst (N := 3) rfl ?_); (try (refine gate_guard (by rfl) ?_; dsimp only)); refine zbx 3 #[.string a1_0, .slice A1_1 l1_1.length c1_1] 25 ?_; intro gb183 hg w5 hbox hb; have BK183 := Aside0.mk hbox; have GW183 := Aside0.mk ((y7 hg HB.out GE182.out : w.heap.size ≤ gb183)); have GE183 := Aside0.mk ((y7 hg HB.out GE182.out : w.heap.size ≤ gb183)); replace HB := Aside0.mk (below_step (y3 HB.out GE182.out) hb); have NB182_183 := zltn hg BK182; have NB183_182 := zgtn hg BK182; replace BK182 := zbb BK182 hb; clear hb hbox hg; have hnb6 := NB182_183.out; have hnc6 := NB183_182.out; have hcz7_0 := zh BK182; have hcz7_1 := zh1 BK182; have hfz7_0 := zfr BK182 0; have hfz7_1 := zfr BK182 1; have hcz8_0 := zh BK183; have hcz8_1 := zh1 BK183; have hfz8_0 := zfr BK183 0; have hfz8_1 := zfr BK183 1)); go_upto_if 10 with (first | ((with_reducible refine gate_dst (N := 2) rfl ?_); (try (refine gate_guard (by rfl) ?_; dsimp only)); refine zbx 2 #[.string a0_0, .slice A0_1 l0_1.length c0_1] 25 ?_; intro gb182 hg w4 hbox hb; have BK182 := Aside0.mk hbox; have GW182 := Aside0.mk ((y6 hg HB.out : w.heap.size ≤ gb182)); have GE182 := Aside0.mk ((y6 hg HB.out : w.heap.size ≤ gb182)); replace HB := Aside0.mk (below_step (y4 HB.out) hb); clear hb hbox hg) | ((with_reducible refine gate_dst (N := 3) rfl ?_); (try (refine gate_guard (by rfl) ?_; dsimp only)); refine zbx 3 #[.string a1_0, .slice A1_1 l1_1.length c1_1] 25 ?_; intro gb183 hg w5 hbox hb; have BK183 := Aside0.mk hbox; have GW183 := Aside0.mk ((y7 hg HB.out GE182.out : w.heap.size ≤ gb183)); have GE183 := Aside0.mk ((y7 hg HB.out GE182.out : w.heap.size ≤ gb183)); replace HB := Aside0.mk (below_step (y3 HB.out GE182.out) hb); have NB182_183 := zltn hg BK182; have NB183_182 := zgtn hg BK182; replace BK182 := zbb BK182 hb; clear hb hbox hg; have hnb6 := NB182_183.out; have hnc6 := NB183_182.out; have hcz7_0 := zh BK182; have hcz7_1 := zh1 BK182; have hfz7_0 := zfr BK182 0; have hfz7_1 := zfr BK182 1; have hcz8_0 := zh BK183; have hcz8_1 := zh1 BK183; have hfz8_0 := zfr BK183 0; have hfz8_1 := zfr BK183 1)))
 (try simp only [Act.put, List.setIfInBounds_toArray, List.set_cons_zero, List.set_cons_succ])
 have H := HZ3.out
 clear HZ3
 by_cases c9 : a0_0.toList = a1_0.toList
 ·rw [if_pos c9] at H
  have c9b0 : (a0_0.toList == a1_0.toList) = true := beq_iff_eq.mpr c9
  have c9b1 : (a0_0.toList != a1_0.toList) = false := bne_eq_false_iff_eq.mpr c9
  clear c9
  (first | rw [c9b0] | (simp only [i64_w, i32_w]; rw [c9b0]) | skip)
  have H' := Aside0.mk H
  clear H
  go_wp2
  repeat (go_quiet (fail); try go_wp2)
  go_loopg [5] k (fun kq v5 w' => ∃ (x5_1 : Int), v5 = .int .i64 x5_1 ∧ Aside0 (spec_l3Meet.l0 kq x5_1 a0_0 l0_1 a1_0 l1_1 = some r) ∧ Aside0 (kq ≤ k) ∧ Aside0 (w'.heap[gb182]? = some (.cells #[.string a0_0, (.slice A0_1 l0_1.length c0_1)] 25 (0, 0))) ∧ Aside0 (w'.heap[gb183]? = some (.cells #[.string a1_0, (.slice A1_1 l1_1.length c1_1)] 25 (0, 0))) ∧ Aside0 (Below w.heap.size w w'))
  case atStart => exact ⟨(0), y19, H', ⟨Nat.le_refl _⟩, ⟨(y2 BK182.out)⟩, ⟨(y2 BK183.out)⟩, ⟨(y1 HB.out GE182.out GE183.out)⟩⟩
  case round =>
   clear H'
   try clear c1
   try clear p2
   try clear c6
   try clear c9
   try clear c9b0
   try clear c9b1
   try clear hcz7_0
   try clear hcz7_1
   try clear hcz8_0
   try clear hcz8_1
   try clear hfz7_0
   try clear hfz7_1
   try clear hfz8_0
   try clear hfz8_1
   (try clear BK182); (try clear BK183)
   obtain ⟨x5_1, rfl, HA, HK1, BK182, BK183, HB⟩ := hrel
   cases gk with
   | zero => exact absurd HA.out (by simp [spec_l3Meet.l0])
   | succ k1 =>
    have H := HA.out
    clear HA
    simp only [spec_l3Meet.l0] at H
    have HC10 := Aside0.mk H
    clear H
    go_upto_region 4 with (fail)
    repeat (go_quiet (fail); go_upto_region 4 with (fail))
    go_cut [22] (fun v22 wc => ∃ (kq : Nat) (x22_9 : Bool), v22 = .bool x22_9 ∧ Aside0 (spec_l3Meet.j1 kq x5_1 x22_9 a0_0 l0_1 a1_0 l1_1 = some r) ∧ Aside0 (kq ≤ k1) ∧ Aside0 (wc.heap[gb182]? = some (.cells #[.string a0_0, (.slice A0_1 l0_1.length c0_1)] 25 (0, 0))) ∧ Aside0 (wc.heap[gb183]? = some (.cells #[.string a1_0, (.slice A1_1 l1_1.length c1_1)] 25 (0, 0))) ∧ Aside0 (Below w.heap.size w wc))
    case first =>
     have H := HC10.out
     clear HC10
     by_cases c11 : x5_1 < (l0_1.length : Int)
     ·rw [if_pos c11] at H
      have c11b0 : decide (x5_1 < (l0_1.length : Int)) = true := decide_eq_true c11
      clear c11
      (first | rw [c11b0] | (simp only [i64_w, i32_w]; rw [c11b0]) | skip)
      have H' := Aside0.mk H
      clear H
      have hnb12 := NB182_183.out
      have hnc12 := NB183_182.out
      have hcz13_0 := zh BK182
      have hcz13_1 := zh1 BK182
      have hfz13_0 := zfr BK182 0
      have hfz13_1 := zfr BK182 1
      have hcz14_0 := zh BK183
      have hcz14_1 := zh1 BK183
      have hfz14_0 := zfr BK183 0
      have hfz14_1 := zfr BK183 1
      go_wp2
      repeat (go_quiet (fail); try go_wp2)
      go_meet
      case rel => exact ⟨_, (decide (x5_1 < (l1_1.length : Int))), y19, H', ⟨(y60 HK1.out)⟩, ⟨(y2 BK182.out)⟩, ⟨(y2 BK183.out)⟩, ⟨(y1 HB.out GE182.out GE183.out)⟩⟩
     ·rw [if_neg c11] at H
      have c11b0 : decide (x5_1 < (l0_1.length : Int)) = false := decide_eq_false c11
      clear c11
      (first | rw [c11b0] | (simp only [i64_w, i32_w]; rw [c11b0]) | skip)
      have H' := Aside0.mk H
      clear H
      have hnb15 := NB182_183.out
      have hnc15 := NB183_182.out
      have hcz16_0 := zh BK182
      have hcz16_1 := zh1 BK182
      have hfz16_0 := zfr BK182 0
      have hfz16_1 := zfr BK182 1
      go_wp2
      repeat (go_quiet (fail); try go_wp2)
      go_meet
      case rel => exact ⟨_, (false), y19, H', ⟨(y60 HK1.out)⟩, ⟨(y2 BK182.out)⟩, ⟨(y2 BK183.out)⟩, ⟨(y1 HB.out GE182.out GE183.out)⟩⟩
    case rest =>
     clear HC10
     try clear c1
     try clear p2
     try clear c6
     try clear c9
     try clear c9b0
     try clear c9b1
     try clear c11
     try clear c11b0
     try clear c12
     try clear c15
     try clear hcz13_0
     try clear hcz13_1
     try clear hcz14_0
     try clear hcz14_1
     try clear hcz16_0
     try clear hcz16_1
     try clear hcz7_0
     try clear hcz7_1
     try clear hcz8_0
     try clear hcz8_1
     try clear hfz13_0
     try clear hfz13_1
     try clear hfz14_0
     try clear hfz14_1
     try clear hfz16_0
     try clear hfz16_1
     try clear hfz7_0
     try clear hfz7_1
     try clear hfz8_0
     try clear hfz8_1
     try clear p2
     obtain ⟨kq, x22_9, rfl, HA, HJ9, BK182, BK183, HB⟩ := hcut
     cases kq with
     | zero => exact absurd HA.out (by simp [spec_l3Meet.j1])
     | succ kj9 =>
      have H := HA.out
      clear HA
      simp only [spec_l3Meet.j1] at H
      by_cases c17 : x22_9 = true
      ·subst c17
       rw [if_pos rfl] at H
       by_cases c18 : 0 ≤ x5_1
       ·rw [if_pos c18] at H
        have c18b0 : decide (0 ≤ x5_1) = true := decide_eq_true c18
        clear c18
        by_cases c19 : x5_1 < (l0_1.length : Int)
        ·rw [if_pos c19] at H
         have c19b0 : decide (x5_1 < (l0_1.length : Int)) = true := decide_eq_true c19
         clear c19
         by_cases c20 : x5_1 < (l1_1.length : Int)
         ·rw [if_pos c20] at H
          have c20b0 : decide (x5_1 < (l1_1.length : Int)) = true := decide_eq_true c20
          clear c20
          by_cases c21 : (rd l0_1 x5_1) = (rd l1_1 x5_1)
          ·rw [if_pos c21] at H
           have c21b0 : ((rd l0_1 x5_1) == (rd l1_1 x5_1)) = true := beq_iff_eq.mpr c21
           have c21b1 : ((rd l0_1 x5_1) != (rd l1_1 x5_1)) = false := bne_eq_false_iff_eq.mpr c21
           clear c21
           have H' := Aside0.mk H
           clear H
           have hnb22 := NB182_183.out
           have hnc22 := NB183_182.out
           have hcz23_0 := zh BK182
           have hcz23_1 := zh1 BK182
           have hfz23_0 := zfr BK182 0
           have hfz23_1 := zfr BK182 1
           have p184 : 0 ≤ (x5_1 : Int) := of_decide_eq_true y13
           have q184 : x5_1 < (l0_1.length : Int) := of_decide_eq_true y13
           obtain ⟨ad184, e184, hx184_0⟩ := Kd.at_int HR0_1.out x5_1 p184 q184
           cases e184
           replace hx184_0 := (HB.out.cell (World.block_lt_of_cell? w _ hx184_0)).trans hx184_0
           replace p184 := eq_true p184
           replace q184 := eq_true q184
           have hcz24_0 := zh BK183
           have hcz24_1 := zh1 BK183
           have hfz24_0 := zfr BK183 0
           have hfz24_1 := zfr BK183 1
           have p185 : 0 ≤ (x5_1 : Int) := of_decide_eq_true y13
           have q185 : x5_1 < (l1_1.length : Int) := of_decide_eq_true y13
           obtain ⟨ad185, e185, hx185_0⟩ := Kd.at_int HR1_1.out x5_1 p185 q185
           cases e185
           replace hx185_0 := (HB.out.cell (World.block_lt_of_cell? w _ hx185_0)).trans hx185_0
           replace p185 := eq_true p185
           replace q185 := eq_true q185
           go_wp2
           repeat (go_quiet (fail); try go_wp2)
           go_roundg kj9
           case measure => have := HK1.out; have := HJ9.out; omega
           case rel => exact ⟨(wrap64 (x5_1 + 1)), y19, H', ⟨(by have := HK1.out; have := HJ9.out; omega)⟩, ⟨(y2 BK182.out)⟩, ⟨(y2 BK183.out)⟩, ⟨(y1 HB.out GE182.out GE183.out)⟩⟩
          ·rw [if_neg c21] at H
           have c21b0 : ((rd l0_1 x5_1) == (rd l1_1 x5_1)) = false := beq_eq_false_iff_ne.mpr c21
           have c21b1 : ((rd l0_1 x5_1) != (rd l1_1 x5_1)) = true := bne_iff_ne.mpr c21
           obtain rfl := Option.some.inj H
           have hnb25 := NB182_183.out
           have hnc25 := NB183_182.out
           have hcz26_0 := zh BK182
           have hcz26_1 := zh1 BK182
           have hfz26_0 := zfr BK182 0
           have hfz26_1 := zfr BK182 1
           have p184 : 0 ≤ (x5_1 : Int) := of_decide_eq_true y13
           have q184 : x5_1 < (l0_1.length : Int) := of_decide_eq_true y13
           obtain ⟨ad184, e184, hx184_0⟩ := Kd.at_int HR0_1.out x5_1 p184 q184
           cases e184
           replace hx184_0 := (HB.out.cell (World.block_lt_of_cell? w _ hx184_0)).trans hx184_0
           replace p184 := eq_true p184
           replace q184 := eq_true q184
           have hcz27_0 := zh BK183
           have hcz27_1 := zh1 BK183
           have hfz27_0 := zfr BK183 0
           have hfz27_1 := zfr BK183 1
           have p185 : 0 ≤ (x5_1 : Int) := of_decide_eq_true y13
           have q185 : x5_1 < (l1_1.length : Int) := of_decide_eq_true y13
           obtain ⟨ad185, e185, hx185_0⟩ := Kd.at_int HR1_1.out x5_1 p185 q185
           cases e185
           replace hx185_0 := (HB.out.cell (World.block_lt_of_cell? w _ hx185_0)).trans hx185_0
           replace p185 := eq_true p185
           replace q185 := eq_true q185
           go_wp2
           repeat (go_quiet (fail); try go_wp2)
           go_ret
           exact ⟨y16, (y1 HB.out GE182.out GE183.out)⟩
         ·rw [if_neg c20] at H
          exact absurd H (by simp)
        ·rw [if_neg c19] at H
         exact absurd H (by simp)
       ·rw [if_neg c18] at H
        exact absurd H (by simp)
      ·replace c17 := Bool.eq_false_iff.mpr c17
       subst c17
       rw [if_neg (show ¬ (false = true) by decide)] at H
       obtain rfl := Option.some.inj H
       go_wp2
       repeat (go_quiet (fail); try go_wp2)
       go_ret
       exact ⟨y16, (y1 HB.out GE182.out GE183.out)⟩
 ·rw [if_neg c9] at H
  have c9b0 : (a0_0.toList == a1_0.toList) = false := beq_eq_false_iff_ne.mpr c9
  have c9b1 : (a0_0.toList != a1_0.toList) = true := bne_iff_ne.mpr c9
  (first | rw [c9b0] | (simp only [i64_w, i32_w]; rw [c9b0]) | skip)
  obtain rfl := Option.some.inj H
  go_wp2
  repeat (go_quiet (fail); try go_wp2)
  go_ret
  exact ⟨y16, (y1 HB.out GE182.out GE183.out)⟩
end Go.Proofs.Ythhjdngailhihaa.PA
end
section
namespace Go.Proofs.Ythhjdngailhihaa.PA
open Go.RowKit Go.Proofs.YthhjdngailhihaaW.PrintWords Go.Proofs.YthhjdngailhihaaW.PrintLast Go.Proofs.YthhjdngailhihaaW.PrintMore
attribute [local go_sem] max2_int min2_int max_two min_two max_three min_three max_four min_four
set_option linter.unusedVariables false
set_option linter.unusedSimpArgs false
def spec_LendMeet.f (k : Nat) (a0_0 : ByteArray) (l0_1 : List Int) (a1_0 : ByteArray) (l1_1 : List Int) : Option (Bool) := (spec_l2Place.f k a0_0 l0_1).bind fun t188 => (if t188 = true then ((spec_l2Place.f k a1_0 l1_1).bind fun t189 => (if t189 = true then ((spec_l3Meet.f k a0_0 l0_1 a1_0 l1_1).bind fun t190 => (some t190)) else (some false))) else (some false))
theorem spec_LendMeet.mono : ∀ a0 a1 a2 a3 k, LeO (spec_LendMeet.f k a0 a1 a2 a3) (spec_LendMeet.f (k + 1) a0 a1 a2 a3) := by
 intro a0 a1 a2 a3 k
 unfold spec_LendMeet.f
 repeat' first
   | (with_reducible exact spec_l2Place.mono _ _ _)
   | (with_reducible exact spec_l3Meet.mono _ _ _ _ _)
   | (with_reducible exact LeO.refl _)
   | (with_reducible exact LeO.none _)
   | (with_reducible refine LeO.ite ?_ ?_)
   | (with_reducible refine LeO.bind ?_ (fun _ => ?_))
   | exact spec_l2Place.mono _ _ _
   | exact spec_l3Meet.mono _ _ _ _ _
   | exact LeO.none _
   | refine LeO.ite ?_ ?_
   | refine LeO.bind ?_ (fun _ => ?_)
set_option maxHeartbeats 8000000 in
set_option maxRecDepth 100000 in
theorem spec_LendMeet.calls (k : Nat) (a0_0 : ByteArray) (A0_1 : Option Addr) (c0_1 : Nat) (l0_1 : List Int) (a1_0 : ByteArray) (A1_1 : Option Addr) (c1_1 : Nat) (l1_1 : List Int) (r : Bool) (w : World) (hr0_1 : Kd.C (Kd.int .i64) w A0_1 l0_1.length l0_1) (hc0_1 : l0_1.length ≤ c0_1) (hr1_1 : Kd.C (Kd.int .i64) w A1_1 l1_1.length l1_1) (hc1_1 : l1_1.length ≤ c1_1) (h : spec_LendMeet.f k a0_0 l0_1 a1_0 l1_1 = some r) :
  Calls Try.prog 7 #[.agg #[.string a0_0, .slice A0_1 l0_1.length c0_1], .agg #[.string a1_0, .slice A1_1 l1_1.length c1_1]] w fun e w' => e = .returned (.bool r) ∧ Below w.heap.size w w' := by
 have hu25 := Try.underlying25
 have HR0_1 := Aside0.mk hr0_1
 have HC0_1 := Aside0.mk hc0_1
 clear hr0_1 hc0_1
 have HR1_1 := Aside0.mk hr1_1
 have HC1_1 := Aside0.mk hc1_1
 clear hr1_1 hc1_1
 have HB := Aside0.mk (Below.refl w.heap.size w)
 have H : ((spec_l2Place.f k a0_0 l0_1).bind fun t188 => (if t188 = true then ((spec_l2Place.f k a1_0 l1_1).bind fun t189 => (if t189 = true then ((spec_l3Meet.f k a0_0 l0_1 a1_0 l1_1).bind fun t190 => (some t190)) else (some false))) else (some false))) = some r := h
 clear h
 obtain ⟨t188, A30, H⟩ := ob H
 have A3 := Aside0.mk A30
 clear A30
 by_cases c4 : t188 = true
 ·subst c4
  rw [if_pos rfl] at H
  obtain ⟨t189, A50, H⟩ := ob H
  have A5 := Aside0.mk A50
  clear A50
  by_cases c6 : t189 = true
  ·subst c6
   rw [if_pos rfl] at H
   obtain ⟨t190, A70, H⟩ := ob H
   have A7 := Aside0.mk A70
   clear A70
   obtain rfl := Option.some.inj H
   go_enter Try.func7, Try.ntmps7
   go_wp2_with (first | ((with_reducible refine gate_dst (N := 2) rfl ?_); refine zbx 2 #[.string a0_0, .slice A0_1 l0_1.length c0_1] 25 ?_; intro gb186 hg w8 hbox hb; have BK186 := Aside0.mk hbox; have GW186 := Aside0.mk ((y6 hg HB.out : w.heap.size ≤ gb186)); have GE186 := Aside0.mk ((y6 hg HB.out : w.heap.size ≤ gb186)); replace HB := Aside0.mk (below_step (y4 HB.out) hb); clear hb hbox hg) | ((with_reducible refine gate_dst (N := 3) rfl ?_); refine zbx 3 #[.string a1_0, .slice A1_1 l1_1.length c1_1] 25 ?_; intro gb187 hg w9 hbox hb; have BK187 := Aside0.mk hbox; have GW187 := Aside0.mk ((y7 hg HB.out GE186.out : w.heap.size ≤ gb187)); have GE187 := Aside0.mk ((y7 hg HB.out GE186.out : w.heap.size ≤ gb187)); replace HB := Aside0.mk (below_step (y3 HB.out GE186.out) hb); have NB186_187 := zltn hg BK186; have NB187_186 := zgtn hg BK186; replace BK186 := zbb BK186 hb; clear hb hbox hg; have hnb10 := NB186_187.out; have hnc10 := NB187_186.out; have hcz11_0 := zh BK186; have hcz11_1 := zh1 BK186; have hfz11_0 := zfr BK186 0; have hfz11_1 := zfr BK186 1) | ((with_reducible refine gate_callee (f := 16) rfl ?_); refine goesL_ (some 6) rfl rfl Try.func16 (by kernel_rfl) rfl #[.agg #[.string a0_0, .slice A0_1 l0_1.length c0_1]] rfl y9 ?_; (with_reducible refine (spec_l2Place.calls k a0_0 _ _ l0_1 true _ ?side1 ?side2 A3.out).mono ?_); (case side1 => exact y10 HR0_1.out HB.out); (case side2 => exact HC0_1.out); rintro e w12 ⟨rfl, hb⟩; refine ⟨_, rfl, ?_⟩; replace BK186 := zbb BK186 hb; replace BK187 := zbb BK187 hb; replace HB := Aside0.mk (below_step (y1 HB.out GE186.out GE187.out) hb); (try clear hb); (try clear hb2); (try clear hk); (try clear hi); have hcz13_0 := zh BK187; have hcz13_1 := zh1 BK187; have hfz13_0 := zfr BK187 0; have hfz13_1 := zfr BK187 1) | (go_at_call 16; (with_reducible refine (spec_l2Place.calls k a1_0 _ _ l1_1 true _ ?side1 ?side2 A5.out).mono ?_); (case side1 => exact y10 HR1_1.out HB.out); (case side2 => exact HC1_1.out); rintro e w14 ⟨rfl, hb⟩; replace BK186 := zbb BK186 hb; replace BK187 := zbb BK187 hb; replace HB := Aside0.mk (below_step (y1 HB.out GE186.out GE187.out) hb); (try clear hb); (try clear hb2); (try clear hk); (try clear hi); have hcz15_0 := zh BK186; have hcz15_1 := zh1 BK186; have hfz15_0 := zfr BK186 0; have hfz15_1 := zfr BK186 1; have hcz16_0 := zh BK187; have hcz16_1 := zh1 BK187; have hfz16_0 := zfr BK187 0; have hfz16_1 := zfr BK187 1) | (go_at_call 17; (with_reducible refine (spec_l3Meet.calls k a0_0 _ _ l0_1 a1_0 _ _ l1_1 t190 _ ?side1 ?side2 ?side3 ?side4 A7.out).mono ?_); (case side1 => exact y10 HR0_1.out HB.out); (case side2 => exact HC0_1.out); (case side3 => exact y10 HR1_1.out HB.out); (case side4 => exact HC1_1.out); rintro e w17 ⟨rfl, hb⟩; replace BK186 := zbb BK186 hb; replace BK187 := zbb BK187 hb; replace HB := Aside0.mk (below_step (y1 HB.out GE186.out GE187.out) hb); (try clear hb); (try clear hb2); (try clear hk); (try clear hi)))
   go_ret
   exact ⟨y16, (y1 HB.out GE186.out GE187.out)⟩
  ·replace c6 := Bool.eq_false_iff.mpr c6
   subst c6
   rw [if_neg (show ¬ (false = true) by decide)] at H
   obtain rfl := Option.some.inj H
   go_enter Try.func7, Try.ntmps7
   go_wp2_with (first | ((with_reducible refine gate_dst (N := 2) rfl ?_); refine zbx 2 #[.string a0_0, .slice A0_1 l0_1.length c0_1] 25 ?_; intro gb186 hg w18 hbox hb; have BK186 := Aside0.mk hbox; have GW186 := Aside0.mk ((y6 hg HB.out : w.heap.size ≤ gb186)); have GE186 := Aside0.mk ((y6 hg HB.out : w.heap.size ≤ gb186)); replace HB := Aside0.mk (below_step (y4 HB.out) hb); clear hb hbox hg) | ((with_reducible refine gate_dst (N := 3) rfl ?_); refine zbx 3 #[.string a1_0, .slice A1_1 l1_1.length c1_1] 25 ?_; intro gb187 hg w19 hbox hb; have BK187 := Aside0.mk hbox; have GW187 := Aside0.mk ((y7 hg HB.out GE186.out : w.heap.size ≤ gb187)); have GE187 := Aside0.mk ((y7 hg HB.out GE186.out : w.heap.size ≤ gb187)); replace HB := Aside0.mk (below_step (y3 HB.out GE186.out) hb); have NB186_187 := zltn hg BK186; have NB187_186 := zgtn hg BK186; replace BK186 := zbb BK186 hb; clear hb hbox hg; have hnb20 := NB186_187.out; have hnc20 := NB187_186.out; have hcz21_0 := zh BK186; have hcz21_1 := zh1 BK186; have hfz21_0 := zfr BK186 0; have hfz21_1 := zfr BK186 1) | ((with_reducible refine gate_callee (f := 16) rfl ?_); refine goesL_ (some 6) rfl rfl Try.func16 (by kernel_rfl) rfl #[.agg #[.string a0_0, .slice A0_1 l0_1.length c0_1]] rfl y9 ?_; (with_reducible refine (spec_l2Place.calls k a0_0 _ _ l0_1 true _ ?side1 ?side2 A3.out).mono ?_); (case side1 => exact y10 HR0_1.out HB.out); (case side2 => exact HC0_1.out); rintro e w22 ⟨rfl, hb⟩; refine ⟨_, rfl, ?_⟩; replace BK186 := zbb BK186 hb; replace BK187 := zbb BK187 hb; replace HB := Aside0.mk (below_step (y1 HB.out GE186.out GE187.out) hb); (try clear hb); (try clear hb2); (try clear hk); (try clear hi); have hcz23_0 := zh BK187; have hcz23_1 := zh1 BK187; have hfz23_0 := zfr BK187 0; have hfz23_1 := zfr BK187 1) | (go_at_call 16; (with_reducible refine (spec_l2Place.calls k a1_0 _ _ l1_1 false _ ?side1 ?side2 A5.out).mono ?_); (case side1 => exact y10 HR1_1.out HB.out); (case side2 => exact HC1_1.out); rintro e w24 ⟨rfl, hb⟩; replace BK186 := zbb BK186 hb; replace BK187 := zbb BK187 hb; replace HB := Aside0.mk (below_step (y1 HB.out GE186.out GE187.out) hb); (try clear hb); (try clear hb2); (try clear hk); (try clear hi)))
   go_ret
   exact ⟨y16, (y1 HB.out GE186.out GE187.out)⟩
 ·replace c4 := Bool.eq_false_iff.mpr c4
  subst c4
  rw [if_neg (show ¬ (false = true) by decide)] at H
  obtain rfl := Option.some.inj H
  go_enter Try.func7, Try.ntmps7
  go_wp2_with (first | ((with_reducible refine gate_dst (N := 2) rfl ?_); refine zbx 2 #[.string a0_0, .slice A0_1 l0_1.length c0_1] 25 ?_; intro gb186 hg w25 hbox hb; have BK186 := Aside0.mk hbox; have GW186 := Aside0.mk ((y6 hg HB.out : w.heap.size ≤ gb186)); have GE186 := Aside0.mk ((y6 hg HB.out : w.heap.size ≤ gb186)); replace HB := Aside0.mk (below_step (y4 HB.out) hb); clear hb hbox hg) | ((with_reducible refine gate_dst (N := 3) rfl ?_); refine zbx 3 #[.string a1_0, .slice A1_1 l1_1.length c1_1] 25 ?_; intro gb187 hg w26 hbox hb; have BK187 := Aside0.mk hbox; have GW187 := Aside0.mk ((y7 hg HB.out GE186.out : w.heap.size ≤ gb187)); have GE187 := Aside0.mk ((y7 hg HB.out GE186.out : w.heap.size ≤ gb187)); replace HB := Aside0.mk (below_step (y3 HB.out GE186.out) hb); have NB186_187 := zltn hg BK186; have NB187_186 := zgtn hg BK186; replace BK186 := zbb BK186 hb; clear hb hbox hg; have hnb27 := NB186_187.out; have hnc27 := NB187_186.out; have hcz28_0 := zh BK186; have hcz28_1 := zh1 BK186; have hfz28_0 := zfr BK186 0; have hfz28_1 := zfr BK186 1) | ((with_reducible refine gate_callee (f := 16) rfl ?_); refine goesL_ (some 6) rfl rfl Try.func16 (by kernel_rfl) rfl #[.agg #[.string a0_0, .slice A0_1 l0_1.length c0_1]] rfl y9 ?_; (with_reducible refine (spec_l2Place.calls k a0_0 _ _ l0_1 false _ ?side1 ?side2 A3.out).mono ?_); (case side1 => exact y10 HR0_1.out HB.out); (case side2 => exact HC0_1.out); rintro e w29 ⟨rfl, hb⟩; refine ⟨_, rfl, ?_⟩; replace BK186 := zbb BK186 hb; replace BK187 := zbb BK187 hb; replace HB := Aside0.mk (below_step (y1 HB.out GE186.out GE187.out) hb); (try clear hb); (try clear hb2); (try clear hk); (try clear hi)))
  go_ret
  exact ⟨y16, (y1 HB.out GE186.out GE187.out)⟩
end Go.Proofs.Ythhjdngailhihaa.PA
end
