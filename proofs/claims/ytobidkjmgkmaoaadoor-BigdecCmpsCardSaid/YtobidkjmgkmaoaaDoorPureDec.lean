/- Plain law: decimals as digits and a point, and their values. No program in it. -/
import Derived.Test.YtobidkjmgkmaoaaDoorFn0
namespace Go.Proofs.YtobidkjmgkmaoaaDoor.Pure
open Go.RowKit Go.Proofs.YtobidkjmgkmaoaaDoorW.PrintWords
/-! ### digits and their value -/
def dig (c : UInt8) : Nat := c.toNat - 48
def isD (c : UInt8) : Bool := 48 ≤ c.toNat && c.toNat ≤ 57
def AllD (l : List UInt8) : Prop := ∀ c ∈ l, 48 ≤ c.toNat ∧ c.toNat ≤ 57
def val (l : List UInt8) : Nat := l.foldl (fun a c => 10 * a + dig c) 0
theorem val_from (l : List UInt8) (a : Nat) : l.foldl (fun a c => 10 * a + dig c) a = a * 10 ^ l.length + val l := by
  induction l generalizing a with
  | nil => simp [val]
  | cons c l ih =>
    unfold val
    rw [List.foldl_cons, List.foldl_cons, ih, ih (10 * 0 + dig c), List.length_cons, Nat.pow_succ, Nat.add_mul, Nat.add_mul]
    have : 10 * a * 10 ^ l.length = a * (10 ^ l.length * 10) := by rw [Nat.mul_comm 10 a, Nat.mul_assoc, Nat.mul_comm 10]
    omega
theorem val_nil : val [] = 0 := rfl
theorem val_cons (c : UInt8) (l : List UInt8) : val (c :: l) = dig c * 10 ^ l.length + val l := by
  have := val_from l (10 * 0 + dig c)
  unfold val at this ⊢
  rw [List.foldl_cons, this]
  simp
theorem val_append (a b : List UInt8) : val (a ++ b) = val a * 10 ^ b.length + val b := by
  unfold val
  rw [List.foldl_append]
  exact val_from b _
theorem val_snoc (l : List UInt8) (c : UInt8) : val (l ++ [c]) = 10 * val l + dig c := by
  rw [val_append, val_cons]
  simp [val_nil]
  omega
theorem val_lt {l : List UInt8} (h : AllD l) : val l < 10 ^ l.length := by
  induction l with
  | nil => simp [val_nil]
  | cons c l ih =>
    have h1 := ih (fun x hx => h x (List.mem_cons_of_mem _ hx))
    have h2 := h c List.mem_cons_self
    rw [val_cons, List.length_cons, Nat.pow_succ]
    have h3 : dig c ≤ 9 := by unfold dig; omega
    have h4 : dig c * 10 ^ l.length ≤ 9 * 10 ^ l.length := Nat.mul_le_mul_right _ h3
    omega
theorem AllD.cons {c : UInt8} {l : List UInt8} (h : AllD (c :: l)) : (48 ≤ c.toNat ∧ c.toNat ≤ 57) ∧ AllD l := ⟨h c List.mem_cons_self, fun x hx => h x (List.mem_cons_of_mem _ hx)⟩
theorem AllD.append {a b : List UInt8} (ha : AllD a) (hb : AllD b) : AllD (a ++ b) := fun c hc => (List.mem_append.1 hc).elim (ha c) (hb c)
theorem AllD.left {a b : List UInt8} (h : AllD (a ++ b)) : AllD a := fun c hc => h c (List.mem_append_left _ hc)
theorem AllD.right {a b : List UInt8} (h : AllD (a ++ b)) : AllD b := fun c hc => h c (List.mem_append_right _ hc)
theorem AllD.take {l : List UInt8} (h : AllD l) (n : Nat) : AllD (l.take n) := fun c hc => h c (List.mem_of_mem_take hc)
theorem AllD.drop {l : List UInt8} (h : AllD l) (n : Nat) : AllD (l.drop n) := fun c hc => h c (List.mem_of_mem_drop hc)
theorem AllD.nil : AllD [] := fun c hc => by cases hc
/-- The digit of a number below 10. -/
def ch (n : Nat) : UInt8 := UInt8.ofNat (48 + n)
theorem ch_toNat {n : Nat} (h : n < 10) : (ch n).toNat = 48 + n := by
  unfold ch
  rw [UInt8.toNat_ofNat']
  omega
theorem dig_ch {n : Nat} (h : n < 10) : dig (ch n) = n := by unfold dig; rw [ch_toNat h]; omega
theorem ch_dig {c : UInt8} (h : 48 ≤ c.toNat ∧ c.toNat ≤ 57) : ch (dig c) = c := by
  apply UInt8.toNat_inj.1
  rw [ch_toNat (by unfold dig; omega)]
  unfold dig
  omega
/-- A number's digits, the highest first; none for 0. -/
def digsF : Nat → Nat → List UInt8
  | 0, _ => []
  | f + 1, n => if n = 0 then [] else digsF f (n / 10) ++ [ch (n % 10)]
def digs (n : Nat) : List UInt8 := digsF n n
theorem digsF_enough : ∀ (f g n : Nat), n ≤ f → n ≤ g → digsF f n = digsF g n
  | 0, 0, _, _, _ => rfl
  | 0, g + 1, n, h, _ => by obtain rfl : n = 0 := by omega
                            simp [digsF]
  | f + 1, 0, n, _, h => by obtain rfl : n = 0 := by omega
                            simp [digsF]
  | f + 1, g + 1, n, hf, hg => by
    unfold digsF
    by_cases h : n = 0
    · rw [if_pos h, if_pos h]
    · rw [if_neg h, if_neg h, digsF_enough f g (n / 10) (by omega) (by omega)]
theorem digs_zero : digs 0 = [] := rfl
theorem digs_step {n : Nat} (h : n ≠ 0) : digs n = digs (n / 10) ++ [ch (n % 10)] := by
  obtain ⟨m, rfl⟩ : ∃ m, n = m + 1 := ⟨n - 1, by omega⟩
  unfold digs
  rw [digsF, if_neg h, digsF_enough m ((m + 1) / 10) _ (by omega) (Nat.le_refl _)]
theorem val_digs (n : Nat) : val (digs n) = n := by
  induction n using Nat.strongRecOn with
  | _ n ih =>
    by_cases h : n = 0
    · subst h; rfl
    · rw [digs_step h, val_snoc, ih (n / 10) (by omega), dig_ch (by omega)]
      omega
theorem allD_digs (n : Nat) : AllD (digs n) := by
  induction n using Nat.strongRecOn with
  | _ n ih =>
    by_cases h : n = 0
    · subst h; exact AllD.nil
    · rw [digs_step h]
      refine (ih (n / 10) (by omega)).append ?_
      intro c hc
      obtain rfl : c = ch (n % 10) := by simpa using hc
      rw [ch_toNat (by omega)]
      omega
/-- No nought ahead. -/
def Head0 (l : List UInt8) : Prop := ∀ c t, l = c :: t → c.toNat ≠ 48
theorem head0_digs (n : Nat) : Head0 (digs n) := by
  induction n using Nat.strongRecOn with
  | _ n ih =>
    by_cases h : n = 0
    · subst h; intro c t ht; cases ht
    · rw [digs_step h]
      intro c t ht
      by_cases h10 : n / 10 = 0
      · rw [h10, digs_zero, List.nil_append] at ht
        injection ht with h1 _
        rw [← h1, ch_toNat (by omega)]
        omega
      · have := ih (n / 10) (by omega)
        cases hd : digs (n / 10) with
        | nil =>
          have := val_digs (n / 10)
          rw [hd, val_nil] at this
          omega
        | cons c' t' =>
          rw [hd, List.cons_append] at ht
          injection ht with h1 _
          rw [← h1]
          exact this c' t' hd
theorem val_pos {l : List UInt8} (h : AllD l) (h0 : Head0 l) (hn : l ≠ []) : val l ≠ 0 := by
  cases l with
  | nil => exact absurd rfl hn
  | cons c t =>
    rw [val_cons]
    have h1 := h.cons.1
    have h2 := h0 c t rfl
    have : 0 < dig c * 10 ^ t.length := Nat.mul_pos (by unfold dig; omega) (Nat.pow_pos (by omega))
    omega
theorem AllD.last {t : List UInt8} {c : UInt8} (h : AllD (t ++ [c])) : 48 ≤ c.toNat ∧ c.toNat ≤ 57 := h c (by simp)
/-- Digits without noughts ahead are the digits of their value. -/
theorem digs_val {l : List UInt8} (h : AllD l) (h0 : Head0 l) : digs (val l) = l := by
  obtain ⟨n, hn⟩ : ∃ n, l.length = n := ⟨_, rfl⟩
  induction n generalizing l with
  | zero => obtain rfl := List.eq_nil_of_length_eq_zero hn; rfl
  | succ n ih =>
    rcases List.eq_nil_or_concat l with rfl | ⟨t, c, rfl⟩
    · cases hn
    · rw [List.concat_eq_append] at *
      have hc := h.last
      have hd : dig c < 10 := by unfold dig; omega
      have hv := val_pos h h0 (by simp)
      rw [digs_step hv, val_snoc]
      have e1 : (10 * val t + dig c) / 10 = val t := by omega
      have e2 : (10 * val t + dig c) % 10 = dig c := by omega
      rw [e1, e2, ch_dig hc]
      by_cases ht : t = []
      · subst ht; rfl
      · rw [ih h.left (by
          intro c' t' e
          exact h0 c' (t' ++ [c]) (by rw [e]; rfl)) (by simpa using hn)]
/-! ### noughts ahead and behind -/
def dz (l : List UInt8) : List UInt8 := l.dropWhile (· == 48)
def rz (l : List UInt8) : List UInt8 := (l.reverse.dropWhile (· == 48)).reverse
theorem eq48 {c : UInt8} : (c == 48) = true ↔ c.toNat = 48 := by
  rw [beq_iff_eq]
  constructor
  · rintro rfl; rfl
  · intro h; apply UInt8.toNat_inj.1; exact h
theorem dz_cons_eq {c : UInt8} {l : List UInt8} (h : c.toNat = 48) : dz (c :: l) = dz l := by unfold dz; rw [List.dropWhile_cons, if_pos (eq48.2 h)]
theorem dz_cons_ne {c : UInt8} {l : List UInt8} (h : c.toNat ≠ 48) : dz (c :: l) = c :: l := by unfold dz; rw [List.dropWhile_cons, if_neg (fun e => h (eq48.1 e))]
theorem dz_nil : dz [] = [] := rfl
theorem rz_nil : rz [] = [] := rfl
theorem rz_snoc_eq {c : UInt8} {l : List UInt8} (h : c.toNat = 48) : rz (l ++ [c]) = rz l := by
  unfold rz
  rw [List.reverse_append, List.reverse_singleton, List.singleton_append, List.dropWhile_cons, if_pos (eq48.2 h)]
theorem rz_snoc_ne {c : UInt8} {l : List UInt8} (h : c.toNat ≠ 48) : rz (l ++ [c]) = l ++ [c] := by
  unfold rz
  rw [List.reverse_append, List.reverse_singleton, List.singleton_append, List.dropWhile_cons, if_neg (fun e => h (eq48.1 e))]
  simp
theorem head0_dz (l : List UInt8) : Head0 (dz l) := by
  induction l with
  | nil => intro c t h; cases h
  | cons c l ih =>
    by_cases h : c.toNat = 48
    · rw [dz_cons_eq h]; exact ih
    · rw [dz_cons_ne h]
      intro c' t e
      injection e with e1 _
      rw [← e1]; exact h
theorem val_dz (l : List UInt8) : val (dz l) = val l := by
  induction l with
  | nil => rfl
  | cons c l ih =>
    by_cases h : c.toNat = 48
    · rw [dz_cons_eq h, ih, val_cons]
      unfold dig
      rw [h]; simp
    · rw [dz_cons_ne h]
theorem AllD.dz {l : List UInt8} (h : AllD l) : AllD (dz l) := fun c hc => h c ((List.dropWhile_sublist _).mem hc)
theorem AllD.rz {l : List UInt8} (h : AllD l) : AllD (rz l) := fun c hc => h c (by
  have := (List.dropWhile_sublist (l := l.reverse) (· == 48)).mem (List.mem_reverse.1 hc)
  exact List.mem_reverse.1 this)
theorem length_dz (l : List UInt8) : (dz l).length ≤ l.length := (List.dropWhile_sublist _).length_le
theorem length_rz (l : List UInt8) : (rz l).length ≤ l.length := by
  have := (List.dropWhile_sublist (l := l.reverse) (· == 48)).length_le
  rw [List.length_reverse] at this
  unfold rz
  rw [List.length_reverse]; exact this
theorem dz_eq {l : List UInt8} (h : AllD l) : dz l = digs (val l) := by rw [← val_dz l, digs_val h.dz (head0_dz l)]
/-- A decimal in form: n times 10 to the power of e. -/
def decOf (n : Nat) (e : Int) : List UInt8 × Int := if n = 0 then ([], 0) else (rz (digs n), (digs n).length + e)
theorem decOf_zero (e : Int) : decOf 0 e = ([], 0) := rfl
theorem digs_ne {n : Nat} (h : n ≠ 0) : digs n ≠ [] := by
  intro e
  have := val_digs n
  rw [e, val_nil] at this
  exact h this.symm
theorem digs_ten {n : Nat} (h : n ≠ 0) : digs (10 * n) = digs n ++ [48] := by
  rw [digs_step (by omega)]
  have e1 : 10 * n / 10 = n := by omega
  have e2 : 10 * n % 10 = 0 := by omega
  rw [e1, e2]; rfl
theorem decOf_ten (n : Nat) (e : Int) : decOf (10 * n) (e - 1) = decOf n e := by
  unfold decOf
  by_cases h : n = 0
  · subst h; rfl
  · rw [if_neg (by omega), if_neg h, digs_ten h, rz_snoc_eq rfl, List.length_append]
    congr 1
    simp
    omega
theorem decOf_scale (n k : Nat) (e : Int) : decOf (n * 10 ^ k) (e - k) = decOf n e := by
  induction k generalizing e with
  | zero => simp
  | succ k ih =>
    have := decOf_ten (n * 10 ^ k) (e - k)
    rw [ih] at this
    rw [← this, Nat.pow_succ]
    congr 1
    · rw [← Nat.mul_assoc, Nat.mul_comm]
    · omega
theorem rz_rz (l : List UInt8) : rz (rz l) = rz l := by
  obtain ⟨n, hn⟩ : ∃ n, l.length = n := ⟨_, rfl⟩
  induction n generalizing l with
  | zero => obtain rfl := List.eq_nil_of_length_eq_zero hn; rfl
  | succ n ih =>
    rcases List.eq_nil_or_concat l with rfl | ⟨t, c, rfl⟩
    · cases hn
    · rw [List.concat_eq_append] at *
      by_cases h : c.toNat = 48
      · rw [rz_snoc_eq h]; exact ih t (by simpa using hn)
      · rw [rz_snoc_ne h, rz_snoc_ne h]
theorem rz_prefix (l : List UInt8) : ∃ k, l = rz l ++ List.replicate k 48 := by
  obtain ⟨n, hn⟩ : ∃ n, l.length = n := ⟨_, rfl⟩
  induction n generalizing l with
  | zero => obtain rfl := List.eq_nil_of_length_eq_zero hn; exact ⟨0, rfl⟩
  | succ n ih =>
    rcases List.eq_nil_or_concat l with rfl | ⟨t, c, rfl⟩
    · cases hn
    · rw [List.concat_eq_append] at *
      by_cases h : c.toNat = 48
      · obtain ⟨k, hk⟩ := ih t (by simpa using hn)
        refine ⟨k + 1, ?_⟩
        have hc : c = 48 := by apply UInt8.toNat_inj.1; exact h
        rw [rz_snoc_eq h, List.replicate_succ', ← List.append_assoc, ← hk, hc]
      · exact ⟨0, by rw [rz_snoc_ne h]; simp⟩
/-- A list that begins with no nought, and is not empty, keeps a digit. -/
theorem rz_ne {l : List UInt8} (h0 : Head0 l) (hn : l ≠ []) : rz l ≠ [] := by
  intro e
  obtain ⟨k, hk⟩ := rz_prefix l
  rw [e, List.nil_append] at hk
  cases k with
  | zero => exact hn hk
  | succ k => exact h0 48 (List.replicate k 48) (by rw [hk, List.replicate_succ]) rfl
/-- Digits with a point, brought in form. -/
def formL (l : List UInt8) (p : Int) : List UInt8 × Int := if rz (dz l) = [] then ([], 0) else (rz (dz l), p - (l.length - (dz l).length))
theorem formL_eq {l : List UInt8} (h : AllD l) (p : Int) : formL l p = decOf (val l) (p - l.length) := by
  unfold formL decOf
  rw [dz_eq h]
  by_cases h0 : val l = 0
  · rw [if_pos h0, h0, digs_zero, if_pos rz_nil]
  · rw [if_neg h0, if_neg (rz_ne (head0_digs _) (digs_ne h0))]
    congr 1
    omega
/-- A decimal is in form. -/
def InForm (l : List UInt8) (p : Int) : Prop := AllD l ∧ Head0 l ∧ rz l = l ∧ (l = [] → p = 0)
theorem val_zeros (k : Nat) : val (List.replicate k 48) = 0 := by
  induction k with
  | zero => rfl
  | succ k ih =>
    have h : dig 48 = 0 := rfl
    rw [List.replicate_succ, val_cons, ih, h]; simp
theorem head0_rz {l : List UInt8} (h : Head0 l) : Head0 (rz l) := by
  obtain ⟨k, hk⟩ := rz_prefix l
  intro c t e
  exact h c (t ++ List.replicate k 48) (by rw [hk, e]; rfl)
theorem inForm_decOf (n : Nat) (e : Int) : InForm (decOf n e).1 (decOf n e).2 := by
  unfold decOf
  by_cases h : n = 0
  · rw [if_pos h]; exact ⟨AllD.nil, (fun c t h => by cases h), rfl, fun _ => rfl⟩
  · rw [if_neg h]
    exact ⟨(allD_digs n).rz, head0_rz (head0_digs n), rz_rz _, fun e => absurd e (rz_ne (head0_digs n) (digs_ne h))⟩
/-- What is in form is the decimal of its value. -/
theorem decOf_val {l : List UInt8} {p : Int} (h : InForm l p) : decOf (val l) (p - l.length) = (l, p) := by
  obtain ⟨h1, h2, h3, h4⟩ := h
  unfold decOf
  by_cases hn : l = []
  · subst hn; rw [h4 rfl]; rfl
  · rw [if_neg (val_pos h1 h2 hn), digs_val h1 h2, h3]
    congr 1
    omega
end Go.Proofs.YtobidkjmgkmaoaaDoor.Pure
