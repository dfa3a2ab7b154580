/- Plain lemmas of types: what is ok, texts, parts, copies, comparing; each with how many rounds are enough. -/
-- USES Draw
import Derived.Test.YtjhbhihfifhljaaDraw
import Derived.Test.YtjhbhihfifhljaaPAx0
import Derived.Test.YtjhbhihfifhljaaPAx10
import Derived.Test.YtjhbhihfifhljaaPAx16
import Derived.Test.YtjhbhihfifhljaaPAx24
import Derived.Test.YtjhbhihfifhljaaPAx25
import Derived.Test.YtjhbhihfifhljaaPAx26
import Derived.Test.YtjhbhihfifhljaaPAx27
import Derived.Test.YtjhbhihfifhljaaPAx28
import Derived.Test.YtjhbhihfifhljaaPAx30
import Derived.Test.YtjhbhihfifhljaaPAx31
import Derived.Test.YtjhbhihfifhljaaPAx5
import Derived.Test.YtjhbhihfifhljaaPAx6
import Derived.Test.YtjhbhihfifhljaaPAx9
namespace Go.Proofs.Ytjhbhihfifhljaa.Types
open Go.RowKit Go.Proofs.Ytjhbhihfifhljaa.PA Go.Proofs.YtjhbhihfifhljaaW.PrintWords Go.Proofs.YtjhbhihfifhljaaW.PrintLast Go.Proofs.Ytjhbhihfifhljaa.Draw

abbrev Ty := List S30
theorem rd0 (a : S30) (l : Ty) : rd_T30 (a :: l) 0 = a := rfl
theorem rd1 (a b : S30) (l : Ty) : rd_T30 (a :: b :: l) 1 = b := rfl
/-- Ok, at most so deep. -/
def dp : Nat → Ty → Bool
  | 0, _ => false
  | _ + 1, [] => true
  | n + 1, [a, b] => dp n a.f0 && dp n b.f0
  | _ + 1, _ => false
theorem dp_nil (n : Nat) : dp (n + 1) [] = true := rfl
theorem dp_two (n : Nat) (a b : S30) : dp (n + 1) [a, b] = (dp n a.f0 && dp n b.f0) := rfl
/-- A list that is neither empty nor a pair. -/
theorem dp_odd (n : Nat) (l : Ty) (h0 : l.length ≠ 0) (h2 : l.length ≠ 2) : dp n l = false := by
  cases n with
  | zero => rfl
  | succ n =>
    match l with
    | [] => simp at h0
    | [_] => rfl
    | [_, _] => simp at h2
    | _ :: _ :: _ :: _ => rfl
theorem two_of {l : Ty} (h : l.length = 2) : ∃ a b, l = [a, b] := by
  match l with
  | [a, b] => exact ⟨a, b, rfl⟩
theorem shape (l : Ty) : l = [] ∨ (∃ a b, l = [a, b]) ∨ (l.length ≠ 0 ∧ l.length ≠ 2) := by
  match l with
  | [] => exact .inl rfl
  | [_] => exact .inr (.inr ⟨by simp, by simp⟩)
  | [a, b] => exact .inr (.inl ⟨a, b, rfl⟩)
  | _ :: _ :: _ :: _ => exact .inr (.inr ⟨by simp, by simp⟩)
theorem pred_cast (n : Nat) (hn : n ≤ 1000) : wrap64 (((n + 1 : Nat) : Int) - 1) = (n : Int) := by rw [w64 (by omega) (by omega)]; omega
theorem deep_ev : ∀ (n : Nat), n ≤ 1000 → ∀ (l : Ty) (k : Nat), 5 * n + 3 ≤ k → spec_l1Deep.f k l n = some (dp n l) := by
  intro n
  induction n with
  | zero =>
    intro _ l k hk
    obtain ⟨k, rfl⟩ : ∃ m, k = m + 2 := ⟨k - 2, by omega⟩
    simp only [spec_l1Deep.f]
    rw [if_pos (by omega)]
    simp only [spec_l1Deep.j0, if_true]
    rfl
  | succ n ih =>
    intro hn l k hk
    obtain ⟨k, rfl⟩ : ∃ m, k = m + 5 := ⟨k - 5, by omega⟩
    have hp := pred_cast n (by omega)
    simp only [spec_l1Deep.f]
    rw [if_neg (by omega)]
    rcases shape l with rfl | ⟨a, b, rfl⟩ | ⟨h0, h2⟩
    · rw [if_pos (by simp)]
      simp only [spec_l1Deep.j0, spec_l1Deep.l0]
      rw [if_neg (by simp), if_neg (by simp)]
      rfl
    · rw [if_neg (by simp)]
      simp only [spec_l1Deep.j0]
      rw [if_neg (by simp)]
      simp only [spec_l1Deep.l0, hp, w01, w12]
      rw [if_pos (by simp), if_pos (by omega), rd0, ih (by omega) _ _ (by omega), dp_two]
      simp only [Option.bind_some]
      cases ha : dp n a.f0 with
      | false => simp
      | true =>
        rw [if_pos rfl, if_pos (by simp), if_pos (by omega), rd1, ih (by omega) _ _ (by omega)]
        simp only [Option.bind_some]
        cases hb : dp n b.f0 with
        | false => simp
        | true => rw [if_pos rfl, if_neg (by simp)]; rfl
    · rw [if_neg (by omega), dp_odd _ _ h0 h2]
      simp only [spec_l1Deep.j0]
      rw [if_pos (by simp; omega)]
theorem specOk_ev (l : Ty) (k : Nat) (hk : 23 ≤ k) : spec_TypeOk.f k l = some (dp 4 l) := by
  unfold spec_TypeOk.f
  rw [show (4 : Int) = ((4 : Nat) : Int) from rfl, deep_ev 4 (by omega) l k (by omega)]; rfl
theorem fits_ev : ∀ (n : Nat), n ≤ 1000 → ∀ (l : Ty) (k : Nat), n + 1 ≤ k → impl_typeFits.f k l n = some (dp n l) := by
  intro n
  induction n with
  | zero =>
    intro _ l k hk
    obtain ⟨k, rfl⟩ : ∃ m, k = m + 1 := ⟨k - 1, by omega⟩
    simp only [impl_typeFits.f]
    rw [if_pos (by omega)]; rfl
  | succ n ih =>
    intro hn l k hk
    obtain ⟨k, rfl⟩ : ∃ m, k = m + 1 := ⟨k - 1, by omega⟩
    have hp := pred_cast n (by omega)
    simp only [impl_typeFits.f]
    rw [if_neg (by omega)]
    rcases shape l with rfl | ⟨a, b, rfl⟩ | ⟨h0, h2⟩
    · rw [if_pos (by simp)]; rfl
    · rw [if_neg (by simp), if_pos (by simp), if_pos (by simp), hp, rd0, ih (by omega) _ _ (by omega), dp_two]
      simp only [Option.bind_some]
      cases ha : dp n a.f0 with
      | false => simp
      | true => rw [if_pos rfl, if_pos (by simp), rd1, ih (by omega) _ _ (by omega)]; simp
    · rw [if_neg (by omega), if_neg (by omega), dp_odd _ _ h0 h2]
theorem implOk_ev (l : Ty) (k : Nat) (hk : 5 ≤ k) : impl_TypeOk.f k l = some (dp 4 l) := by
  unfold impl_TypeOk.f
  rw [show (4 : Int) = ((4 : Nat) : Int) from rfl, fits_ev 4 (by omega) l k (by omega)]; rfl

/-- The text of an ok type. -/
def tx : Nat → Ty → ByteArray
  | n + 1, [a, b] => ((((⟨#[40]⟩ : ByteArray) ++ tx n a.f0) ++ (⟨#[44]⟩ : ByteArray)) ++ tx n b.f0) ++ (⟨#[41]⟩ : ByteArray)
  | _, _ => ⟨#[105]⟩
theorem tx_two (n : Nat) (a b : S30) : tx (n + 1) [a, b] = ((((⟨#[40]⟩ : ByteArray) ++ tx n a.f0) ++ (⟨#[44]⟩ : ByteArray)) ++ tx n b.f0) ++ (⟨#[41]⟩ : ByteArray) := rfl
theorem tx_nil (n : Nat) : tx n [] = ⟨#[105]⟩ := by cases n <;> rfl
theorem tx_size (n : Nat) : ∀ l, (tx n l).size + 3 ≤ 4 * 2 ^ n := by
  induction n with
  | zero => intro l; simp [tx]; decide
  | succ n ih =>
    intro l
    have hp : 1 ≤ 2 ^ n := Nat.one_le_two_pow
    have h1 : (⟨#[105]⟩ : ByteArray).size = 1 := rfl
    rw [Nat.pow_succ]
    match l with
    | [a, b] =>
      have ha := ih a.f0
      have hb := ih b.f0
      rw [tx_two]
      simp only [ByteArray.size_append, show (⟨#[40]⟩ : ByteArray).size = 1 from rfl, show (⟨#[44]⟩ : ByteArray).size = 1 from rfl, show (⟨#[41]⟩ : ByteArray).size = 1 from rfl]
      omega
    | [] => show (⟨#[105]⟩ : ByteArray).size + 3 ≤ _; omega
    | [_] => show (⟨#[105]⟩ : ByteArray).size + 3 ≤ _; omega
    | _ :: _ :: _ :: _ => show (⟨#[105]⟩ : ByteArray).size + 3 ≤ _; omega
theorem say_ev : ∀ (n : Nat), n ≤ 20 → ∀ (l : Ty) (k : Nat), dp n l = true → n + 1 ≤ k → spec_l1Say.f k l = some (tx n l) := by
  intro n
  induction n with
  | zero => intro _ l k h; simp [dp] at h
  | succ n ih =>
    intro hn l k h hk
    obtain ⟨k, rfl⟩ : ∃ m, k = m + 1 := ⟨k - 1, by omega⟩
    simp only [spec_l1Say.f]
    rcases shape l with rfl | ⟨a, b, rfl⟩ | ⟨h0, h2⟩
    · rw [if_pos (by simp)]; rfl
    · rw [dp_two, Bool.and_eq_true] at h
      have s1 := tx_size n a.f0
      have s2 := tx_size n b.f0
      have hup : 2 ^ n ≤ 2 ^ 20 := Nat.pow_le_pow_right (by decide) (by omega)
      have e20 : (2 : Nat) ^ 20 = 1048576 := rfl
      rw [if_neg (by simp), if_pos (by simp), rd0, ih (by omega) _ _ h.1 (by omega)]
      simp only [Option.bind_some]
      rw [if_pos (by omega), if_pos (by omega), if_pos (by simp), rd1, ih (by omega) _ _ h.2 (by omega)]
      simp only [Option.bind_some]
      rw [if_pos (by omega), if_pos (by omega), tx_two]
    · rw [dp_odd _ _ h0 h2] at h; cases h
theorem words_ev : ∀ (n : Nat), n ≤ 20 → ∀ (l : Ty) (k : Nat), dp n l = true → n + 1 ≤ k → impl_typeWords.f k l = some (tx n l) := by
  intro n
  induction n with
  | zero => intro _ l k h; simp [dp] at h
  | succ n ih =>
    intro hn l k h hk
    obtain ⟨k, rfl⟩ : ∃ m, k = m + 1 := ⟨k - 1, by omega⟩
    simp only [impl_typeWords.f, impl_typeIsNum.f, Option.bind_some]
    rcases shape l with rfl | ⟨a, b, rfl⟩ | ⟨h0, h2⟩
    · rw [if_pos (by simp)]; rfl
    · rw [dp_two, Bool.and_eq_true] at h
      have s1 := tx_size n a.f0
      have s2 := tx_size n b.f0
      have hup : 2 ^ n ≤ 2 ^ 20 := Nat.pow_le_pow_right (by decide) (by omega)
      have e20 : (2 : Nat) ^ 20 = 1048576 := rfl
      rw [if_neg (by simp), if_pos (by simp), rd0, ih (by omega) _ _ h.1 (by omega)]
      simp only [Option.bind_some]
      rw [if_pos (by omega), if_pos (by omega), if_pos (by simp), rd1, ih (by omega) _ _ h.2 (by omega)]
      simp only [Option.bind_some]
      rw [if_pos (by omega), if_pos (by omega), tx_two]
    · rw [dp_odd _ _ h0 h2] at h; cases h
/-- What both say as a type's text. -/
def text (l : Ty) : ByteArray := if dp 4 l = true then tx 4 l else ⟨#[]⟩
theorem specText_ev (l : Ty) (k : Nat) (hk : 23 ≤ k) : spec_TypeText.f k l = some (text l) := by
  unfold spec_TypeText.f text
  rw [specOk_ev l k hk]
  simp only [Option.bind_some]
  by_cases h : dp 4 l = true
  · rw [if_pos h, if_pos h, say_ev 4 (by omega) l k h (by omega)]; rfl
  · rw [if_neg h, if_neg h]
theorem implText_ev (l : Ty) (k : Nat) (hk : 5 ≤ k) : impl_TypeText.f k l = some (text l) := by
  unfold impl_TypeText.f text
  rw [implOk_ev l k hk]
  simp only [Option.bind_some]
  by_cases h : dp 4 l = true
  · rw [if_pos h, if_pos h, words_ev 4 (by omega) l k h (by omega)]; rfl
  · rw [if_neg h, if_neg h]
/-- The same, as ok types go. -/
def teq : Nat → Ty → Ty → Bool
  | _ + 1, [], [] => true
  | n + 1, [a, b], [c, d] => teq n a.f0 c.f0 && teq n b.f0 d.f0
  | _, _, _ => false
theorem lh_ev : ∀ (n : Nat) (a b : Ty) (k : Nat), dp n a = true → dp n b = true → 4 * n ≤ k → laws_lhType.f k a b = some (teq n a b) := by
  intro n
  induction n with
  | zero => intro a b k h; simp [dp] at h
  | succ n ih =>
    intro a b k ha hb hk
    obtain ⟨k, rfl⟩ : ∃ m, k = m + 4 := ⟨k - 4, by omega⟩
    simp only [laws_lhType.f]
    rcases shape a with rfl | ⟨a1, a2, rfl⟩ | ⟨h0, h2⟩
    · rcases shape b with rfl | ⟨b1, b2, rfl⟩ | ⟨h0, h2⟩
      · rw [if_pos rfl]; simp only [laws_lhType.l0]; rw [if_neg (by simp)]; rfl
      · rw [if_neg (by simp)]; rfl
      · rw [dp_odd _ _ h0 h2] at hb; cases hb
    · rcases shape b with rfl | ⟨b1, b2, rfl⟩ | ⟨h0, h2⟩
      · rw [if_neg (by simp)]; rfl
      · rw [dp_two, Bool.and_eq_true] at ha hb
        rw [if_pos (by simp)]
        simp only [laws_lhType.l0, w01, w12]
        rw [if_pos (by simp), if_pos (by omega), if_pos (by simp), rd0, rd0, ih _ _ _ ha.1 hb.1 (by omega)]
        simp only [Option.bind_some]
        have e : teq (n + 1) [a1, a2] [b1, b2] = (teq n a1.f0 b1.f0 && teq n a2.f0 b2.f0) := rfl
        rw [e]
        cases h1 : teq n a1.f0 b1.f0 with
        | false => simp
        | true =>
          rw [if_pos rfl, if_pos (by simp), if_pos (by omega), if_pos (by simp), rd1, rd1, ih _ _ _ ha.2 hb.2 (by omega)]
          simp only [Option.bind_some]
          cases h2 : teq n a2.f0 b2.f0 with
          | false => simp
          | true => rw [if_pos rfl, if_neg (by simp)]; rfl
      · rw [dp_odd _ _ h0 h2] at hb; cases hb
    · rw [dp_odd _ _ h0 h2] at ha; cases ha
theorem teq_eq : ∀ (n : Nat) (a b : Ty), teq n a b = true → a = b := by
  intro n
  induction n with
  | zero => intro a b h; simp [teq] at h
  | succ n ih =>
    intro a b h
    unfold teq at h
    split at h
    · rfl
    · rename_i m x y z u he
      cases he
      rw [Bool.and_eq_true] at h
      have h1 := ih _ _ h.1
      have h2 := ih _ _ h.2
      cases x; cases y; cases z; cases u
      simp_all
    · cases h
theorem teq_refl : ∀ (n : Nat) (a : Ty), dp n a = true → teq n a a = true := by
  intro n
  induction n with
  | zero => intro a h; simp [dp] at h
  | succ n ih =>
    intro a h
    rcases shape a with rfl | ⟨a1, a2, rfl⟩ | ⟨h0, h2⟩
    · rfl
    · rw [dp_two, Bool.and_eq_true] at h
      show (teq n a1.f0 a1.f0 && teq n a2.f0 a2.f0) = true
      rw [ih _ h.1, ih _ h.2]; rfl
    · rw [dp_odd _ _ h0 h2] at h; cases h
theorem toList_app (a b : ByteArray) : (a ++ b).toList = a.toList ++ b.toList := by
  rw [ByteArray.toList_eq, ByteArray.toList_eq, ByteArray.toList_eq]; simp
theorem lit_toList (c : UInt8) : (⟨#[c]⟩ : ByteArray).toList = [c] := by rw [ByteArray.toList_eq]
/-- A text tells its type, and where it ends. -/
theorem tx_inj : ∀ (n : Nat) (a b : Ty) (r s : List UInt8), dp n a = true → dp n b = true → (tx n a).toList ++ r = (tx n b).toList ++ s → teq n a b = true ∧ r = s := by
  intro n
  induction n with
  | zero => intro a b r s h; simp [dp] at h
  | succ n ih =>
    intro a b r s ha hb h
    rcases shape a with rfl | ⟨a1, a2, rfl⟩ | ⟨h0, h2⟩
    · rcases shape b with rfl | ⟨b1, b2, rfl⟩ | ⟨h0, h2⟩
      · rw [tx_nil] at h
        exact ⟨rfl, List.append_cancel_left h⟩
      · rw [tx_nil, tx_two] at h
        simp only [toList_app, lit_toList, List.cons_append, List.nil_append, List.append_assoc] at h
        injection h with h1 _
        exact absurd h1 (by decide)
      · rw [dp_odd _ _ h0 h2] at hb; cases hb
    · rcases shape b with rfl | ⟨b1, b2, rfl⟩ | ⟨h0, h2⟩
      · rw [tx_nil, tx_two] at h
        simp only [toList_app, lit_toList, List.cons_append, List.nil_append, List.append_assoc] at h
        injection h with h1 _
        exact absurd h1 (by decide)
      · rw [dp_two, Bool.and_eq_true] at ha hb
        rw [tx_two, tx_two] at h
        simp only [toList_app, lit_toList, List.cons_append, List.nil_append, List.append_assoc] at h
        injection h with _ h
        obtain ⟨e1, h⟩ := ih _ _ _ _ ha.1 hb.1 h
        injection h with _ h
        obtain ⟨e2, h⟩ := ih _ _ _ _ ha.2 hb.2 h
        injection h with _ h
        refine ⟨?_, h⟩
        show (teq n a1.f0 b1.f0 && teq n a2.f0 b2.f0) = true
        rw [e1, e2]; rfl
      · rw [dp_odd _ _ h0 h2] at hb; cases hb
    · rw [dp_odd _ _ h0 h2] at ha; cases ha
theorem text_teq (a b : Ty) (ha : dp 4 a = true) (hb : dp 4 b = true) : ((text a).toList == (text b).toList) = teq 4 a b := by
  unfold text
  rw [if_pos ha, if_pos hb]
  by_cases h : (tx 4 a).toList = (tx 4 b).toList
  · rw [beq_iff_eq.2 h, (tx_inj 4 a b [] [] ha hb (by simpa using h)).1]
  · cases e : teq 4 a b with
    | false => exact beq_eq_false_iff_ne.2 h
    | true => exact absurd (by rw [teq_eq _ _ _ e]) h
theorem tx_pos (n : Nat) (l : Ty) : 0 < (tx n l).size := by
  unfold tx
  split
  · simp only [ByteArray.size_append, show (⟨#[40]⟩ : ByteArray).size = 1 from rfl]; omega
  · decide
/-- Types are drawn. -/
theorem deepLoop_ev (s : List Int) (p : Int) : ∀ (d i : Nat), i + d = 5 → ∀ (l : Ty), ∃ r, (∀ k' , d + 1 ≤ k' → spec_l71Deep.l0 k' i s p l = some (r, p)) ∧ ∀ n, Dph n l → Dph (n + d) r := by
  intro d
  induction d with
  | zero =>
    intro i hi l
    have hh : ∀ k', 0 + 1 ≤ k' → spec_l71Deep.l0 k' i s p l = some (l, p) := by
      intro k' hk'
      obtain ⟨k', rfl⟩ : ∃ m, k' = m + 1 := ⟨k' - 1, by omega⟩
      simp only [spec_l71Deep.l0]
      rw [if_neg (by omega)]
    exact ⟨l, hh, fun n h => h⟩
  | succ d ih =>
    intro i hi l
    obtain ⟨r, hr, hd⟩ := ih (i + 1) (by omega) [⟨l⟩, ⟨[]⟩]
    have hh : ∀ k', d + 1 + 1 ≤ k' → spec_l71Deep.l0 k' i s p l = some (r, p) := by
      intro k' hk'
      obtain ⟨k', rfl⟩ : ∃ m, k' = m + 1 := ⟨k' - 1, by omega⟩
      simp only [spec_l71Deep.l0]
      rw [if_pos (by omega), w64 (by omega) (by omega)]
      exact hr k' (by omega)
    refine ⟨r, hh, fun n h => ?_⟩
    have := hd (n + 1) (by
      intro x hx
      rcases List.mem_cons.1 hx with rfl | hx
      · exact h
      · rw [List.mem_singleton.1 hx]; exact dph_nil _)
    rwa [show n + (d + 1) = n + 1 + d from by omega]
theorem dph_mono : ∀ (n : Nat) (l : Ty), Dph n l → Dph (n + 1) l := by
  intro n
  induction n with
  | zero => intro l h; rw [show l = [] from h]; exact dph_nil _
  | succ n ih => intro l h x hx; exact ih _ (h x hx)
theorem dph_le (n m : Nat) (h : n ≤ m) (l : Ty) (hd : Dph n l) : Dph m l := by
  induction m with
  | zero => obtain rfl : n = 0 := by omega
            exact hd
  | succ m ih =>
    by_cases e : n = m + 1
    · subst e; exact hd
    · exact dph_mono _ _ (ih (by omega))
theorem l71Deep_ev (s : List Int) (hs : Bytes s) (p : Int) (hp : 0 ≤ p) (hp1 : p ≤ 1099511627000) : ∃ r q, (∀ k, 20 ≤ k → spec_l71Deep.f k s p = some (r, q)) ∧ p ≤ q ∧ q ≤ p + 100 ∧ Dph 10 r := by
  obtain ⟨c, hc, c0, c1⟩ := pick_ev s hs p 4 hp (by omega) (by omega)
  obtain ⟨cn, rfl⟩ := Int.eq_ofNat_of_zero_le c0
  have hpow : (2 : Int) ^ (1 + cn) ≤ 16 := by
    have : (2 : Nat) ^ (1 + cn) ≤ 2 ^ 4 := Nat.pow_le_pow_right (by decide) (by omega)
    exact_mod_cast this
  obtain ⟨t, q1, ht, hl, hq1, hq2, dt⟩ := type_ev s hs (1 + cn) (by omega) (p + 1) (by omega) (by omega)
  obtain ⟨c', hc', c0', c1'⟩ := pick_ev s hs q1 12 (by omega) (by omega) (by omega)
  have ew : wrap64 (1 + (cn : Int)) = ((1 + cn : Nat) : Int) := by rw [w64 (by omega) (by omega)]; omega
  obtain ⟨rl, hrl, hrd⟩ := deepLoop_ev s (q1 + 1) 5 0 rfl t
  have hh : ∃ r, (∀ k, 20 ≤ k → spec_l71Deep.f k s p = some (r, q1 + 1)) ∧ Dph 10 r := by
    by_cases e0 : c' = 0
    · refine ⟨rl, fun k hk => ?_, dph_le _ _ (by omega) _ (hrd _ dt)⟩
      unfold spec_l71Deep.f
      rw [hc k (by omega)]; simp only [Option.bind_some]
      rw [ew, ht k (by omega)]; simp only [Option.bind_some]
      rw [hc' k (by omega)]; simp only [Option.bind_some]
      rw [if_pos e0]
      exact hrl k (by omega)
    · by_cases e1 : c' = 1
      · refine ⟨t ++ [⟨[]⟩], fun k hk => ?_, dph_le (1 + cn) _ (by omega) _ (by
          rw [Nat.add_comm] at dt ⊢
          intro x hx
          rcases List.mem_append.1 hx with hx | hx
          · exact dt x hx
          · rw [List.mem_singleton.1 hx]; exact dph_nil _)⟩
        unfold spec_l71Deep.f
        rw [hc k (by omega)]; simp only [Option.bind_some]
        rw [ew, ht k (by omega)]; simp only [Option.bind_some]
        rw [hc' k (by omega)]; simp only [Option.bind_some]
        rw [if_neg e0, if_pos e1, if_pos (by omega)]
      · refine ⟨t, fun k hk => ?_, dph_le _ _ (by omega) _ dt⟩
        unfold spec_l71Deep.f
        rw [hc k (by omega)]; simp only [Option.bind_some]
        rw [ew, ht k (by omega)]; simp only [Option.bind_some]
        rw [hc' k (by omega)]; simp only [Option.bind_some]
        rw [if_neg e0, if_neg e1]
  obtain ⟨r, hr, hd⟩ := hh
  exact ⟨r, q1 + 1, hr, by omega, by omega, hd⟩
theorem drawText_ev (l : List Int) (h : ∀ x ∈ l, (Lit.int .u8 x).wf = true) : ∃ r, ∀ k, 20 ≤ k → spec_DrawTypeText.f k l = some r := by
  obtain ⟨s, ho, hs⟩ := open_ev l h
  obtain ⟨r, q, hr, _⟩ := l71Deep_ev s hs 0 (by omega) (by omega)
  refine ⟨r, fun k hk => ?_⟩
  unfold spec_DrawTypeText.f
  rw [ho]; simp only [Option.bind_some]
  rw [hr k hk]; rfl

end Go.Proofs.Ytjhbhihfifhljaa.Types
