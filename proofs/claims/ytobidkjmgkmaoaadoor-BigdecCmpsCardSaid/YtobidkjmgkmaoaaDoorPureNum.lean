/- Plain law: great numbers as lists of places, the lowest first: times a small number, their digits; no program. -/
import Derived.Test.YtobidkjmgkmaoaaDoorPureNorm
namespace Go.Proofs.YtobidkjmgkmaoaaDoor.Pure
open Go.RowKit Go.Proofs.YtobidkjmgkmaoaaDoorW.PrintWords
set_option linter.unusedVariables false
set_option linter.unusedSimpArgs false
theorem u64_id {x : Int} (h1 : 0 ≤ x) (h2 : x ≤ 18446744073709551615) : IntKind.u64.wrap x = x := by
  simp [IntKind.wrap, IntKind.bits, IntKind.signed]
  omega
theorem tmod_id {x y : Int} (h : 0 ≤ x) : Int.tmod x y = x % y := Int.tmod_eq_emod_of_nonneg h
theorem tdiv_id {x y : Int} (h : 0 ≤ x) : Int.tdiv x y = x / y := Int.tdiv_eq_ediv_of_nonneg h
def InB (B : Nat) (xs : List Int) : Prop := ∀ x ∈ xs, 0 ≤ x ∧ x < (B : Int)
def lv (B : Nat) : List Int → Nat
  | [] => 0
  | x :: xs => x.toNat + B * lv B xs
theorem InB.nil (B : Nat) : InB B [] := fun x h => by cases h
theorem InB.cons {B : Nat} {x : Int} {xs : List Int} (h : InB B (x :: xs)) : (0 ≤ x ∧ x < (B : Int)) ∧ InB B xs := ⟨h x List.mem_cons_self, fun y hy => h y (List.mem_cons_of_mem _ hy)⟩
theorem InB.mk {B : Nat} {x : Int} {xs : List Int} (h1 : 0 ≤ x ∧ x < (B : Int)) (h2 : InB B xs) : InB B (x :: xs) := by
  intro y hy
  rcases List.mem_cons.1 hy with rfl | h
  · exact h1
  · exact h2 y h
theorem InB.left {B : Nat} {a b : List Int} (h : InB B (a ++ b)) : InB B a := fun x hx => h x (List.mem_append_left _ hx)
theorem InB.right {B : Nat} {a b : List Int} (h : InB B (a ++ b)) : InB B b := fun x hx => h x (List.mem_append_right _ hx)
theorem InB.append {B : Nat} {a b : List Int} (ha : InB B a) (hb : InB B b) : InB B (a ++ b) := fun x hx => (List.mem_append.1 hx).elim (ha x) (hb x)
theorem lv_append (B : Nat) (a b : List Int) : lv B (a ++ b) = lv B a + B ^ a.length * lv B b := by
  induction a with
  | nil => simp [lv]
  | cons x a ih =>
    rw [List.cons_append, lv, lv, ih, List.length_cons, Nat.pow_succ, Nat.mul_add]
    have : B * (B ^ a.length * lv B b) = B ^ a.length * B * lv B b := by rw [← Nat.mul_assoc, Nat.mul_comm B]
    omega
/-- Times a small number. -/
def mulGo (B by_ : Nat) : List Int → Nat → List Int
  | [], c => if c = 0 then [] else [(c : Int)]
  | x :: xs, c => (((x.toNat * by_ + c) % B : Nat) : Int) :: mulGo B by_ xs ((x.toNat * by_ + c) / B)
theorem mulGo_val {B by_ : Nat} (hB : 0 < B) : ∀ (xs : List Int) (c : Nat), lv B (mulGo B by_ xs c) = lv B xs * by_ + c
  | [], c => by
    unfold mulGo
    by_cases h : c = 0
    · rw [if_pos h, h]; simp [lv]
    · rw [if_neg h]; simp [lv]
  | x :: xs, c => by
    unfold mulGo
    rw [lv, lv, mulGo_val hB xs, Int.toNat_natCast, Nat.mul_add, Nat.add_mul, ← Nat.mul_assoc]
    have := Nat.mod_add_div (x.toNat * by_ + c) B
    omega
theorem mulGo_val0 {B by_ : Nat} (hB : 0 < B) (xs : List Int) : lv B (mulGo B by_ xs 0) = lv B xs * by_ := mulGo_val hB xs 0
theorem carry_le {B by_ x c : Nat} (hx : x < B) (hc : c ≤ by_) (hB : 0 < B) : (x * by_ + c) / B ≤ by_ := by
  have h1 : x * by_ + c ≤ B * by_ := by
    have : x * by_ ≤ (B - 1) * by_ := Nat.mul_le_mul_right _ (by omega)
    have h2 : (B - 1) * by_ + by_ = B * by_ := by
      have : (B - 1 + 1) * by_ = (B - 1) * by_ + by_ := Nat.succ_mul _ _
      rw [← this]; congr 1; omega
    omega
  calc (x * by_ + c) / B ≤ (B * by_) / B := Nat.div_le_div_right h1
    _ = by_ := Nat.mul_div_cancel_left _ hB
theorem mulGo_in {B by_ : Nat} (hby : by_ < B) : ∀ (xs : List Int) (c : Nat), InB B xs → c ≤ by_ → InB B (mulGo B by_ xs c)
  | [], c, _, hc => by
    unfold mulGo
    by_cases h : c = 0
    · rw [if_pos h]; exact InB.nil B
    · rw [if_neg h]; exact InB.mk ⟨by omega, by omega⟩ (InB.nil B)
  | x :: xs, c, h, hc => by
    unfold mulGo
    have hx := h.cons.1
    refine InB.mk ⟨by omega, ?_⟩ (mulGo_in hby xs _ h.cons.2 (carry_le (by omega) hc (by omega)))
    have := Nat.mod_lt (x.toNat * by_ + c) (show B > 0 by omega)
    omega
theorem mulGo_len {B by_ : Nat} : ∀ (xs : List Int) (c : Nat), (mulGo B by_ xs c).length ≤ xs.length + 1
  | [], c => by
    unfold mulGo
    by_cases h : c = 0
    · rw [if_pos h]; simp
    · rw [if_neg h]; simp
  | x :: xs, c => by
    unfold mulGo
    have := mulGo_len (B := B) (by_ := by_) xs ((x.toNat * by_ + c) / B)
    simp only [List.length_cons]
    omega
theorem rd_mid (a : List Int) (x : Int) (b : List Int) : rd (a ++ x :: b) (a.length : Int) = x := by
  unfold rd
  simp [List.getD_eq_getElem?_getD]
theorem set_mid (a : List Int) (x y : Int) (b : List Int) : (a ++ x :: b).set a.length y = a ++ y :: b := by
  rw [List.set_append_right _ _ (Nat.le_refl _)]
  simp
/-- A number's places to the base 10, the lowest first. -/
def dLE : Nat → Nat → List Int
  | 0, _ => []
  | f + 1, n => if n = 0 then [] else ((n % 10 : Nat) : Int) :: dLE f (n / 10)
theorem dLE_val : ∀ (f n : Nat), n < 10 ^ f → lv 10 (dLE f n) = n
  | 0, n, h => by simp at h; subst h; rfl
  | f + 1, n, h => by
    unfold dLE
    by_cases h0 : n = 0
    · rw [if_pos h0, h0]; rfl
    · rw [if_neg h0, lv, dLE_val f (n / 10) (by rw [Nat.pow_succ] at h; omega), Int.toNat_natCast]
      omega
theorem dLE_in : ∀ (f n : Nat), InB 10 (dLE f n)
  | 0, n => InB.nil 10
  | f + 1, n => by
    unfold dLE
    by_cases h0 : n = 0
    · rw [if_pos h0]; exact InB.nil 10
    · rw [if_neg h0]; exact InB.mk ⟨by omega, by omega⟩ (dLE_in f _)
theorem dLE_len : ∀ (f n : Nat), (dLE f n).length ≤ f
  | 0, n => Nat.le_refl _
  | f + 1, n => by
    unfold dLE
    by_cases h0 : n = 0
    · rw [if_pos h0]; simp
    · rw [if_neg h0]
      have := dLE_len f (n / 10)
      simp only [List.length_cons]
      omega
/-- Places as a text. -/
def textLE (l : List Int) : List UInt8 := l.reverse.map fun x => ch x.toNat
theorem textLE_val {l : List Int} (h : InB 10 l) : val (textLE l) = lv 10 l := by
  induction l with
  | nil => rfl
  | cons x l ih =>
    have := ih h.cons.2
    unfold textLE at this ⊢
    rw [List.reverse_cons, List.map_append, List.map_cons, List.map_nil, val_snoc, this, lv, dig_ch (by have := h.cons.1; omega)]
    omega
theorem textLE_all {l : List Int} (h : InB 10 l) : AllD (textLE l) := by
  intro c hc
  obtain ⟨x, hx, rfl⟩ := List.mem_map.1 hc
  have := h x (List.mem_reverse.1 hx)
  rw [ch_toNat (by omega)]
  omega
theorem textLE_len (l : List Int) : (textLE l).length = l.length := by simp [textLE]
theorem L_strOfNums (xs : List Int) : L (strOfNums xs) = xs.map fun n => UInt8.ofNat n.toNat := strOfNums_data xs
theorem lv_lt {B : Nat} {xs : List Int} (h : InB B xs) : lv B xs < B ^ xs.length := by
  induction xs with
  | nil => simp [lv]
  | cons x xs ih =>
    have h1 := ih h.cons.2
    have h2 := h.cons.1
    rw [lv, List.length_cons, Nat.pow_succ]
    have h3 : B * (lv B xs + 1) ≤ B * B ^ xs.length := Nat.mul_le_mul_left _ h1
    rw [Nat.mul_add, Nat.mul_one] at h3
    have : B * B ^ xs.length = B ^ xs.length * B := Nat.mul_comm _ _
    omega
theorem digs_len : ∀ (k n : Nat), n < 10 ^ k → (digs n).length ≤ k
  | 0, n, h => by simp at h; subst h; exact Nat.le_refl _
  | k + 1, n, h => by
    by_cases h0 : n = 0
    · subst h0; exact Nat.zero_le _
    · rw [digs_step h0, List.length_append]
      have := digs_len k (n / 10) (by rw [Nat.pow_succ] at h; omega)
      simp
      omega
end Go.Proofs.YtobidkjmgkmaoaaDoor.Pure
