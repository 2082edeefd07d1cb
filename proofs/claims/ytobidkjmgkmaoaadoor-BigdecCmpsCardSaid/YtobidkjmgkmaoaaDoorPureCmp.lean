/- Plain law: what Cmp comes to, in the program and in the reference: the values, brought to one unit. -/
import Derived.Test.YtobidkjmgkmaoaaDoorPureNum
import Derived.Test.YtobidkjmgkmaoaaDoorFnBigdecCmp
import Derived.Test.YtobidkjmgkmaoaaDoorFnPlatenref04Cmp
namespace Go.Proofs.YtobidkjmgkmaoaaDoor.Pure
open Go.RowKit Go.Proofs.YtobidkjmgkmaoaaDoorW.PrintWords Go.Proofs.YtobidkjmgkmaoaaDoor.Fn
set_option linter.unusedVariables false
set_option linter.unusedSimpArgs false
/-! ### values in units of 10 to the power of E -/
def sv (l : List UInt8) (p E : Int) : Nat := val l * 10 ^ (p - l.length - E).toNat
def cmpN (a b : Nat) : Int := if a < b then -1 else if b < a then 1 else 0
theorem cmpN_mul (a b k : Nat) (hk : 0 < k) : cmpN (a * k) (b * k) = cmpN a b := by
  unfold cmpN
  by_cases h1 : a < b
  · rw [if_pos h1, if_pos (Nat.mul_lt_mul_of_pos_right h1 hk)]
  · rw [if_neg h1, if_neg (fun h => h1 (Nat.lt_of_mul_lt_mul_right h))]
    by_cases h2 : b < a
    · rw [if_pos h2, if_pos (Nat.mul_lt_mul_of_pos_right h2 hk)]
    · rw [if_neg h2, if_neg (fun h => h2 (Nat.lt_of_mul_lt_mul_right h))]
theorem cmpN_add (x a b : Nat) : cmpN (x + a) (x + b) = cmpN a b := by
  have e1 : x + a < x + b ↔ a < b := by omega
  have e2 : x + b < x + a ↔ b < a := by omega
  unfold cmpN
  simp only [e1, e2]
theorem cmpN_lt {a b : Nat} (h : a < b) : cmpN a b = -1 := if_pos h
theorem cmpN_gt {a b : Nat} (h : b < a) : cmpN a b = 1 := by unfold cmpN; rw [if_neg (by omega), if_pos h]
theorem cmpN_self (a : Nat) : cmpN a a = 0 := by unfold cmpN; rw [if_neg (by omega), if_neg (by omega)]
theorem sv_lower (l : List UInt8) (p E : Int) (h : E ≤ p - l.length) (k : Nat) : sv l p (E - k) = sv l p E * 10 ^ k := by
  unfold sv
  have : (p - l.length - (E - k)).toNat = (p - l.length - E).toNat + k := by omega
  rw [this, Nat.pow_add, Nat.mul_assoc]
theorem decOf_sv {l : List UInt8} {p : Int} (h : InForm l p) {E : Int} (hE : E ≤ p - l.length) : decOf (sv l p E) E = (l, p) := by
  have h1 := decOf_scale (val l) (p - l.length - E).toNat (p - l.length)
  have h2 : (p - (l.length : Int)) - ((p - l.length - E).toNat : Int) = E := by omega
  rw [h2, decOf_val h] at h1
  exact h1
def cmpD (a : List UInt8) (p : Int) (b : List UInt8) (q : Int) : Int := cmpN (sv a p (min (p - a.length) (q - b.length))) (sv b q (min (p - a.length) (q - b.length)))
theorem cmpD_at {a b : List UInt8} {p q E : Int} (h1 : E ≤ p - a.length) (h2 : E ≤ q - b.length) : cmpD a p b q = cmpN (sv a p E) (sv b q E) := by
  unfold cmpD
  obtain ⟨k, hk⟩ : ∃ k : Nat, E = min (p - (a.length : Int)) (q - b.length) - k := ⟨(min (p - (a.length : Int)) (q - b.length) - E).toNat, by omega⟩
  rw [hk, sv_lower a p _ (by omega), sv_lower b q _ (by omega), cmpN_mul _ _ _ (Nat.pow_pos (by omega))]
theorem sv_lt {l : List UInt8} (h : AllD l) {p E : Int} (hE : E ≤ p - l.length) : sv l p E < 10 ^ (p - E).toNat := by
  unfold sv
  have h1 := val_lt h
  have h2 : (p - E).toNat = l.length + (p - l.length - E).toNat := by omega
  rw [h2, Nat.pow_add]
  exact Nat.mul_lt_mul_of_pos_right h1 (Nat.pow_pos (by omega))
theorem val_ge {l : List UInt8} (h : AllD l) (h0 : Head0 l) (hn : l ≠ []) : 10 ^ (l.length - 1) ≤ val l := by
  cases l with
  | nil => exact absurd rfl hn
  | cons c t =>
    rw [val_cons, List.length_cons]
    have h1 := h.cons.1
    have h2 := h0 c t rfl
    have : 1 * 10 ^ t.length ≤ dig c * 10 ^ t.length := Nat.mul_le_mul_right _ (by unfold dig; omega)
    simp only [Nat.add_sub_cancel]
    omega
theorem sv_ge {l : List UInt8} (h : AllD l) (h0 : Head0 l) (hn : l ≠ []) {p E : Int} (hE : E ≤ p - l.length) : 10 ^ (p - 1 - E).toNat ≤ sv l p E := by
  unfold sv
  have h1 := val_ge h h0 hn
  have hl : 0 < l.length := List.length_pos_iff.2 hn
  have h2 : (p - 1 - E).toNat = (l.length - 1) + (p - l.length - E).toNat := by omega
  rw [h2, Nat.pow_add]
  exact Nat.mul_le_mul_right _ h1
/-! ### the order of texts -/
theorem last_ne {l : List UInt8} (h : AllD l) (hr : rz l = l) (hn : l ≠ []) : val l ≠ 0 := by
  rcases List.eq_nil_or_concat l with rfl | ⟨t, c, rfl⟩
  · exact absurd rfl hn
  · rw [List.concat_eq_append] at *
    have hc : c.toNat ≠ 48 := by
      intro e
      rw [rz_snoc_eq e] at hr
      have := length_rz t
      rw [hr] at this
      simp at this
      omega
    rw [val_snoc]
    have := h.last
    unfold dig
    omega
theorem rz_tail {c : UInt8} {t : List UInt8} (h : rz (c :: t) = c :: t) : rz t = t := by
  rcases List.eq_nil_or_concat t with rfl | ⟨u, d, rfl⟩
  · rfl
  · rw [List.concat_eq_append] at *
    by_cases e : d.toNat = 48
    · rw [← List.cons_append, rz_snoc_eq e] at h
      have := length_rz (c :: u)
      rw [h] at this
      simp at this
      omega
    · exact rz_snoc_ne e
theorem lex_val : ∀ (a b : List UInt8) (K : Nat), AllD a → AllD b → rz a = a → rz b = b → a.length ≤ K → b.length ≤ K → Lib.compareBytes a b = cmpN (val a * 10 ^ (K - a.length)) (val b * 10 ^ (K - b.length))
  | [], [], K, _, _, _, _, _, _ => by simp [Lib.compareBytes, val_nil, cmpN]
  | [], d :: u, K, _, hb, _, hrb, _, _ => by
    rw [val_nil, Nat.zero_mul, cmpN_lt (Nat.mul_pos (Nat.pos_of_ne_zero (last_ne hb hrb (by simp))) (Nat.pow_pos (by omega)))]
    rfl
  | c :: t, [], K, ha, _, hra, _, _, _ => by
    rw [val_nil, Nat.zero_mul, cmpN_gt (Nat.mul_pos (Nat.pos_of_ne_zero (last_ne ha hra (by simp))) (Nat.pow_pos (by omega)))]
    rfl
  | c :: t, d :: u, K, ha, hb, hra, hrb, hka, hkb => by
    simp only [List.length_cons] at hka hkb
    have hc := ha.cons.1
    have hd := hb.cons.1
    have h1 := val_lt ha.cons.2
    have h2 := val_lt hb.cons.2
    have ea : val (c :: t) * 10 ^ (K - (t.length + 1)) = dig c * 10 ^ (K - 1) + val t * 10 ^ (K - 1 - t.length) := by
      rw [val_cons, Nat.add_mul, Nat.mul_assoc, ← Nat.pow_add]
      have e1 : t.length + (K - (t.length + 1)) = K - 1 := by omega
      have e2 : K - (t.length + 1) = K - 1 - t.length := by omega
      rw [e1, e2]
    have eb : val (d :: u) * 10 ^ (K - (u.length + 1)) = dig d * 10 ^ (K - 1) + val u * 10 ^ (K - 1 - u.length) := by
      rw [val_cons, Nat.add_mul, Nat.mul_assoc, ← Nat.pow_add]
      have e1 : u.length + (K - (u.length + 1)) = K - 1 := by omega
      have e2 : K - (u.length + 1) = K - 1 - u.length := by omega
      rw [e1, e2]
    have la : val t * 10 ^ (K - 1 - t.length) < 10 ^ (K - 1) := by
      have : 10 ^ t.length * 10 ^ (K - 1 - t.length) = 10 ^ (K - 1) := by rw [← Nat.pow_add]; congr 1; omega
      rw [← this]
      exact Nat.mul_lt_mul_of_pos_right h1 (Nat.pow_pos (by omega))
    have lb : val u * 10 ^ (K - 1 - u.length) < 10 ^ (K - 1) := by
      have : 10 ^ u.length * 10 ^ (K - 1 - u.length) = 10 ^ (K - 1) := by rw [← Nat.pow_add]; congr 1; omega
      rw [← this]
      exact Nat.mul_lt_mul_of_pos_right h2 (Nat.pow_pos (by omega))
    have less : ∀ x y r s M : Nat, x < y → r < M → x * M + r < y * M + s := by
      intro x y r s M hxy hr
      have : (x + 1) * M ≤ y * M := Nat.mul_le_mul_right _ hxy
      rw [Nat.add_mul] at this
      omega
    rw [List.length_cons, List.length_cons, ea, eb]
    unfold Lib.compareBytes
    have hlt : ∀ x y : UInt8, (48 ≤ x.toNat ∧ x.toNat ≤ 57) → (48 ≤ y.toNat ∧ y.toNat ≤ 57) → (x < y ↔ dig x < dig y) := by
      intro x y hx hy
      rw [UInt8.lt_iff_toNat_lt]
      unfold dig
      omega
    by_cases e1 : c < d
    · rw [if_pos e1, cmpN_lt (less _ _ _ _ _ ((hlt c d hc hd).1 e1) la)]
    · rw [if_neg e1]
      by_cases e2 : d < c
      · rw [if_pos e2, cmpN_gt (less _ _ _ _ _ ((hlt d c hd hc).1 e2) lb)]
      · rw [if_neg e2]
        have e3 : dig c = dig d := by
          have h3 := mt (hlt c d hc hd).2 e1
          have h4 := mt (hlt d c hd hc).2 e2
          omega
        rw [lex_val t u (K - 1) ha.cons.2 hb.cons.2 (rz_tail hra) (rz_tail hrb) (by omega) (by omega), e3, cmpN_add]
/-! ### the program's cmp -/
theorem cmp_eq {a b : List UInt8} {p q : Int} (ha : InForm a p) (hb : InForm b q) : Ev (fun k => bigdec_cmp.f k (S a) p (S b) q) (cmpD a p b q) := by
  obtain ⟨ha1, ha2, ha3, ha4⟩ := ha
  obtain ⟨hb1, hb2, hb3, hb4⟩ := hb
  have hE1 : min (p - (a.length : Int)) (q - b.length) ≤ p - a.length := by omega
  have hE2 : min (p - (a.length : Int)) (q - b.length) ≤ q - b.length := by omega
  have empt : ∀ (z : Int), (a = [] ∨ b = []) → Lib.compareBytes a b = cmpD a p b q := by
    intro _ h
    unfold cmpD
    by_cases h1 : a = []
    · by_cases h2 : b = []
      · subst h1; subst h2; rw [cmpN]; simp [sv, val_nil, Lib.compareBytes]
      · subst h1
        rw [cmpN_lt]
        · cases b with
          | nil => exact absurd rfl h2
          | cons d u => rfl
        · have h3 : 0 < sv b q (min (p - (([] : List UInt8).length : Int)) (q - b.length)) := Nat.mul_pos (Nat.pos_of_ne_zero (val_pos hb1 hb2 h2)) (Nat.pow_pos (by omega))
          simpa [sv, val_nil] using h3
    · have h2 : b = [] := by rcases h with h | h; exact absurd h h1; exact h
      subst h2
      rw [cmpN_gt]
      · cases a with
        | nil => exact absurd rfl h1
        | cons d u => rfl
      · have h3 : 0 < sv a p (min (p - (a.length : Int)) (q - (([] : List UInt8).length : Int))) := Nat.mul_pos (Nat.pos_of_ne_zero (val_pos ha1 ha2 h1)) (Nat.pow_pos (by omega))
        simpa [sv, val_nil] using h3
  have hcmp : strings_Compare.f (S a) (S b) = some (Lib.compareBytes a b) := rfl
  unfold bigdec_cmp.f
  rw [toList_L, L_S, toList_L, L_S]
  by_cases h1 : a = []
  · refine Ev.congr (f := fun k => bigdec_cmp.j0 k true (S a) p (S b) q) (fun k => by rw [if_pos h1]) (Ev.step (f := fun _ => some (cmpD a p b q)) (fun k => ?_) (Ev.now _))
    simp only [bigdec_cmp.j0]
    rw [if_pos trivial, hcmp, Option.bind_some, empt 0 (.inl h1)]
  · by_cases h2 : b = []
    · refine Ev.congr (f := fun k => bigdec_cmp.j0 k true (S a) p (S b) q) (fun k => by rw [if_neg h1, h2]; rfl) (Ev.step (f := fun _ => some (cmpD a p b q)) (fun k => ?_) (Ev.now _))
      simp only [bigdec_cmp.j0]
      rw [if_pos trivial, hcmp, Option.bind_some, empt 0 (.inr h2)]
    · refine Ev.congr (f := fun k => bigdec_cmp.j0 k false (S a) p (S b) q) (fun k => by rw [if_neg h1]; congr 1; simpa using h2) (Ev.step (f := fun _ => some (cmpD a p b q)) (fun k => ?_) (Ev.now _))
      simp only [bigdec_cmp.j0]
      rw [if_neg (by simp)]
      have hal : 0 < a.length := List.length_pos_iff.2 h1
      have hbl : 0 < b.length := List.length_pos_iff.2 h2
      have la := sv_lt ha1 hE1
      have lb := sv_lt hb1 hE2
      have ga := sv_ge ha1 ha2 h1 hE1
      have gb := sv_ge hb1 hb2 h2 hE2
      generalize hE : min (p - (a.length : Int)) (q - b.length) = E at *
      by_cases h3 : p < q
      · rw [if_pos h3]
        unfold cmpD
        rw [hE, cmpN_lt]
        have : 10 ^ (p - E).toNat ≤ 10 ^ (q - 1 - E).toNat := Nat.pow_le_pow_right (by omega) (by omega)
        omega
      · rw [if_neg h3]
        by_cases h4 : p > q
        · rw [if_pos h4]
          unfold cmpD
          rw [hE, cmpN_gt]
          have : 10 ^ (q - E).toNat ≤ 10 ^ (p - 1 - E).toNat := Nat.pow_le_pow_right (by omega) (by omega)
          omega
        · rw [if_neg h4, hcmp, Option.bind_some]
          have e : p = q := by omega
          subst e
          rw [lex_val a b (p - E).toNat ha1 hb1 ha3 hb3 (by omega) (by omega)]
          unfold cmpD sv
          rw [hE]
          have e1 : (p - E).toNat - a.length = (p - (a.length : Int) - E).toNat := by omega
          have e2 : (p - E).toNat - b.length = (p - (b.length : Int) - E).toNat := by omega
          rw [e1, e2]
/-! ### what Norm answers is in form -/
theorem normS_cases (s : ByteArray) (p : Int) : (∃ e : Int, normS s p = (⟨#[]⟩, 0, e) ∧ e ≠ 0 ∧ (e = 2 ∨ e = 4)) ∨ ∃ l q, normS s p = (S l, q, 0) ∧ InForm l q ∧ l.length ≤ 2000 ∧ -7000 ≤ q ∧ q ≤ 5000 ∧ AllD (L s) ∧ (l, q) = decOf (val (L s)) (p - (L s).length) := by
  unfold normS
  by_cases h : s.size > 2000
  · rw [if_pos h]; exact .inl ⟨2, rfl, by omega, .inl rfl⟩
  · rw [if_neg h]
    unfold normTail
    by_cases h1 : (L s).all isD = true
    · rw [if_pos h1]
      by_cases h2 : p < -5000
      · rw [if_pos h2]; exact .inl ⟨2, rfl, by omega, .inl rfl⟩
      · rw [if_neg h2]
        by_cases h3 : p > 5000
        · rw [if_pos h3]; exact .inl ⟨2, rfl, by omega, .inl rfl⟩
        · rw [if_neg h3]
          have hall : AllD (L s) := fun c hc => (isD_iff c).1 (List.all_eq_true.1 h1 c hc)
          have hf := formL_eq hall p
          have hin := inForm_decOf (val (L s)) (p - (L s).length)
          rw [← hf] at hin
          have hl := length_dz (L s)
          have hl2 := length_rz (dz (L s))
          rw [← size_L] at hl
          refine .inr ⟨(formL (L s) p).1, (formL (L s) p).2, rfl, hin, ?_, ?_, ?_, hall, by rw [← hf]⟩
          · unfold formL; split
            · simp
            · show (rz (dz (L s))).length ≤ 2000
              omega
          · unfold formL; split
            · show (-7000 : Int) ≤ 0
              omega
            · show (-7000 : Int) ≤ p - _
              rw [← size_L]
              omega
          · unfold formL; split
            · show (0 : Int) ≤ 5000
              omega
            · show p - _ ≤ (5000 : Int)
              rw [← size_L]
              omega
    · rw [if_neg h1]; exact .inl ⟨4, rfl, by omega, .inr rfl⟩
/-! ### Cmp -/
def cmpS (s : ByteArray) (p : Int) (t : ByteArray) (q : Int) : Int × Int :=
  if (normS s p).2.2 = 0 then (if (normS t q).2.2 = 0 then (cmpD (L (normS s p).1) (normS s p).2.1 (L (normS t q).1) (normS t q).2.1, 0) else (0, (normS t q).2.2)) else (0, (normS s p).2.2)
theorem two_eq (s : ByteArray) (p : Int) (t : ByteArray) (q : Int) : Ev (fun k => bigdec_two.f k s p t q) (if (normS s p).2.2 = 0 then ((normS s p).1, (normS s p).2.1, (normS t q).1, (normS t q).2.1, (normS t q).2.2) else ((normS s p).1, (normS s p).2.1, t, q, (normS s p).2.2)) := by
  unfold bigdec_two.f
  refine Ev.bind (norm_eq s p) ?_
  by_cases h : (normS s p).2.2 = 0
  · rw [if_pos h]
    exact Ev.congr (fun k => by rw [if_pos h]) (Ev.bind (f := fun _ bt => some ((normS s p).1, (normS s p).2.1, bt.1, bt.2.1, bt.2.2)) (norm_eq t q) (Ev.now _))
  · rw [if_neg h]
    exact Ev.congr (fun k => by rw [if_neg h]) (Ev.now _)
theorem cmpS_eq (s : ByteArray) (p : Int) (t : ByteArray) (q : Int) : Ev (fun k => bigdec_Cmp.f k s p t q) (cmpS s p t q) := by
  unfold bigdec_Cmp.f cmpS
  refine Ev.bind (two_eq s p t q) ?_
  rcases normS_cases s p with ⟨e, h1, h2, _⟩ | ⟨l, u, h1, hf1, _⟩
  · rw [h1, if_neg h2, if_neg h2]
    exact Ev.congr (fun k => by rw [if_neg h2]) (Ev.now _)
  · rw [h1, if_pos rfl, if_pos rfl]
    rcases normS_cases t q with ⟨e, h3, h4, _⟩ | ⟨m, v, h3, hf2, _⟩
    · rw [h3, if_neg h4]
      exact Ev.congr (fun k => by rw [if_neg h4]) (Ev.now _)
    · rw [h3, if_pos rfl]
      refine Ev.congr (fun k => by rw [if_pos rfl]) (Ev.bind (f := fun _ x => some (x, (0 : Int))) (cmp_eq hf1 hf2) (Ev.now _))
/-! ### the reference's Compare -/
theorem val_digit {l : List UInt8} (h : AllD l) (i : Nat) (hi : i < l.length) : val l / 10 ^ (l.length - 1 - i) % 10 = dig l[i] := by
  have e : l = l.take (i + 1) ++ l.drop (i + 1) := (List.take_append_drop _ _).symm
  have e2 : l.take (i + 1) = l.take i ++ [l[i]] := List.take_succ_eq_append_getElem hi
  have hv : val l = (10 * val (l.take i) + dig l[i]) * 10 ^ (l.length - 1 - i) + val (l.drop (i + 1)) := by
    have hl : (l.drop (i + 1)).length = l.length - 1 - i := by rw [List.length_drop]; omega
    rw [← hl, ← val_snoc, ← e2, ← val_append, ← e]
  have hlt : val (l.drop (i + 1)) < 10 ^ (l.length - 1 - i) := by
    have := val_lt (h.drop (i + 1))
    rw [List.length_drop] at this
    have e3 : l.length - (i + 1) = l.length - 1 - i := by omega
    rw [e3] at this
    exact this
  have hd : dig l[i] < 10 := by have := h l[i] (List.getElem_mem hi); unfold dig; omega
  rw [hv, Nat.mul_comm, Nat.mul_add_div (Nat.pow_pos (by omega)), Nat.div_eq_of_lt hlt]
  omega
theorem digit_eq {l : List UInt8} {p E x : Int} (h : AllD l) (hE : E ≤ p - l.length) (hx : E ≤ x) (hb : l.length ≤ 100000 ∧ -100000 ≤ p ∧ p ≤ 100000 ∧ -100000 ≤ x ∧ x ≤ 100000) :
    platenref04_digit.f (S l) p x = some ((sv l p E / 10 ^ (x - E).toNat % 10 : Nat) : Int) := by
  unfold platenref04_digit.f
  have hw : wrap64 (wrap64 (p - 1) - x) = p - 1 - x := by rw [wrap_id (x := p - 1) (by omega) (by omega), wrap_id (by omega) (by omega)]
  rw [hw, size_S]
  by_cases h1 : p - 1 - x < 0
  · rw [if_pos h1]
    have hlt := sv_lt h hE
    have : 10 ^ (p - E).toNat ≤ 10 ^ (x - E).toNat := Nat.pow_le_pow_right (by omega) (by omega)
    rw [Nat.div_eq_of_lt (by omega)]
    rfl
  · rw [if_neg h1]
    by_cases h2 : p - 1 - x ≥ (l.length : Int)
    · rw [if_pos h2]
      unfold sv
      have e : (p - l.length - E).toNat = (p - l.length - x).toNat + (x - E).toNat := by omega
      rw [e, Nat.pow_add, ← Nat.mul_assoc, Nat.mul_div_cancel _ (Nat.pow_pos (by omega))]
      obtain ⟨j, hj⟩ : ∃ j, (p - l.length - x).toNat = j + 1 := ⟨(p - l.length - x).toNat - 1, by omega⟩
      rw [hj, Nat.pow_succ, ← Nat.mul_assoc, Nat.mul_mod_left]
      rfl
    · obtain ⟨i, hi⟩ : ∃ i : Nat, p - 1 - x = (i : Int) := ⟨(p - 1 - x).toNat, by omega⟩
      have hil : i < l.length := by omega
      rw [if_neg h2, hi, if_pos (by omega), if_pos (by omega), bt_L (S l) i (by rw [size_S]; exact hil)]
      simp only [L_S]
      have hd := h l[i] (List.getElem_mem hil)
      have hv := val_digit h i hil
      have e : sv l p E / 10 ^ (x - E).toNat = val l / 10 ^ (l.length - 1 - i) := by
        unfold sv
        have e1 : (x - E).toNat = (l.length - 1 - i) + (p - l.length - E).toNat := by omega
        rw [e1, Nat.pow_add, Nat.mul_comm (10 ^ (l.length - 1 - i)), ← Nat.div_div_eq_div_mul, Nat.mul_div_cancel _ (Nat.pow_pos (by omega))]
      rw [e, hv]
      unfold dig at *
      congr 1
      omega
theorem top_digit {A B n : Nat} (hA : A < 10 ^ (n + 1)) (hB : B < 10 ^ (n + 1)) : cmpN A B = (if A / 10 ^ n % 10 < B / 10 ^ n % 10 then -1 else if B / 10 ^ n % 10 < A / 10 ^ n % 10 then 1 else cmpN (A % 10 ^ n) (B % 10 ^ n)) := by
  have hp : 0 < 10 ^ n := Nat.pow_pos (by omega)
  rw [Nat.pow_succ] at hA hB
  have a1 : A / 10 ^ n < 10 := Nat.div_lt_of_lt_mul hA
  have b1 : B / 10 ^ n < 10 := Nat.div_lt_of_lt_mul hB
  rw [Nat.mod_eq_of_lt a1, Nat.mod_eq_of_lt b1]
  have ea := Nat.div_add_mod A (10 ^ n)
  have eb := Nat.div_add_mod B (10 ^ n)
  have ma := Nat.mod_lt A hp
  have mb := Nat.mod_lt B hp
  have less : ∀ x y r s M : Nat, x < y → r < M → M * x + r < M * y + s := by
    intro x y r s M hxy hr
    have : M * (x + 1) ≤ M * y := Nat.mul_le_mul_left _ hxy
    rw [Nat.mul_add] at this
    omega
  by_cases h1 : A / 10 ^ n < B / 10 ^ n
  · rw [if_pos h1, cmpN_lt]
    rw [← ea, ← eb]
    exact less _ _ _ _ _ h1 ma
  · rw [if_neg h1]
    by_cases h2 : B / 10 ^ n < A / 10 ^ n
    · rw [if_pos h2, cmpN_gt]
      rw [← ea, ← eb]
      exact less _ _ _ _ _ h2 mb
    · rw [if_neg h2]
      have e : A / 10 ^ n = B / 10 ^ n := by omega
      rw [e] at ea
      rw [← cmpN_add (10 ^ n * (B / 10 ^ n)) (A % 10 ^ n), ea, eb]
theorem mod_digit (A n j : Nat) (h : j < n) : A % 10 ^ n / 10 ^ j % 10 = A / 10 ^ j % 10 := by
  obtain ⟨d, rfl⟩ : ∃ d, n = j + 1 + d := ⟨n - (j + 1), by omega⟩
  have e : 10 ^ (j + 1 + d) = 10 ^ j * (10 * 10 ^ d) := by rw [Nat.pow_add, Nat.pow_succ, Nat.mul_assoc]
  rw [e, Nat.mod_mul_right_div_self, Nat.mod_mul_right_mod]
theorem rcmp_l0 {a b : List UInt8} {p q E : Int} (ha : AllD a) (hb : AllD b) (h1 : E ≤ p - a.length) (h2 : E ≤ q - b.length)
    (hba : a.length ≤ 100000 ∧ -50000 ≤ p ∧ p ≤ 50000) (hbb : b.length ≤ 100000 ∧ -50000 ≤ q ∧ q ≤ 50000) (hE : -50000 ≤ E) :
    ∀ (n : Nat), E + n ≤ 50000 → Ev (fun k => platenref04_Compare.l0 k E (E + n - 1) (S a) p (S b) q) (cmpN (sv a p E % 10 ^ n) (sv b q E % 10 ^ n)) := by
  intro n
  induction n with
  | zero =>
    intro _
    refine Ev.step (f := fun _ => some (0 : Int)) (fun k => ?_) ?_
    · simp only [platenref04_Compare.l0]
      rw [if_neg (by omega)]
    · rw [Nat.pow_zero, Nat.mod_one, Nat.mod_one]
      exact Ev.now _
  | succ n ih =>
    intro hn
    have d1 := digit_eq (x := E + n) ha h1 (by omega) (by omega)
    have d2 := digit_eq (x := E + n) hb h2 (by omega) (by omega)
    have en : (E + n - E).toNat = n := by omega
    rw [en] at d1 d2
    have ht := top_digit (Nat.mod_lt (sv a p E) (Nat.pow_pos (n := n + 1) (show 0 < 10 by omega))) (Nat.mod_lt (sv b q E) (Nat.pow_pos (n := n + 1) (show 0 < 10 by omega)))
    rw [mod_digit _ _ _ (by omega), mod_digit _ _ _ (by omega), Nat.pow_succ, Nat.mod_mul_right_mod, Nat.mod_mul_right_mod, ← Nat.pow_succ] at ht
    rw [ht]
    have ex : E + ((n + 1 : Nat) : Int) - 1 = E + n := by omega
    rw [ex]
    have hbody : ∀ k, platenref04_Compare.l0 (k + 1) E (E + n) (S a) p (S b) q = (if sv a p E / 10 ^ n % 10 < sv b q E / 10 ^ n % 10 then some (-1) else if sv b q E / 10 ^ n % 10 < sv a p E / 10 ^ n % 10 then some 1 else platenref04_Compare.l0 k E (E + n - 1) (S a) p (S b) q) := by
      intro k
      simp only [platenref04_Compare.l0]
      rw [if_pos (by omega), d1, Option.bind_some, d2, Option.bind_some, wrap_id (by omega) (by omega)]
      by_cases c1 : sv a p E / 10 ^ n % 10 < sv b q E / 10 ^ n % 10
      · rw [if_pos c1, if_pos (by omega)]
      · rw [if_neg c1, if_neg (by omega)]
        by_cases c2 : sv b q E / 10 ^ n % 10 < sv a p E / 10 ^ n % 10
        · rw [if_pos c2, if_pos (by omega)]
        · rw [if_neg c2, if_neg (by omega)]
    refine Ev.step hbody ?_
    by_cases c1 : sv a p E / 10 ^ n % 10 < sv b q E / 10 ^ n % 10
    · rw [if_pos c1]
      exact Ev.congr (fun k => by rw [if_pos c1]) (Ev.now _)
    · rw [if_neg c1]
      by_cases c2 : sv b q E / 10 ^ n % 10 < sv a p E / 10 ^ n % 10
      · rw [if_pos c2]
        exact Ev.congr (fun k => by rw [if_neg c1, if_pos c2]) (Ev.now _)
      · rw [if_neg c2]
        exact Ev.congr (fun k => by rw [if_neg c1, if_neg c2]) (ih (by omega))
theorem low_eq (l : List UInt8) (p : Int) (hb : l.length ≤ 100000 ∧ -100000 ≤ p ∧ p ≤ 100000) : platenref04_low.f (S l) p = some (p - l.length) := by
  unfold platenref04_low.f
  rw [size_S, wrap_id (by omega) (by omega)]
theorem mod_sv {l : List UInt8} (h : AllD l) {p E : Int} (hE : E ≤ p - l.length) (n : Nat) (hn : p - E ≤ n) : sv l p E % 10 ^ n = sv l p E := by
  have h1 := sv_lt h hE
  have : 10 ^ (p - E).toNat ≤ 10 ^ n := Nat.pow_le_pow_right (by omega) (by omega)
  exact Nat.mod_eq_of_lt (by omega)
theorem cmpD_nil_left {b : List UInt8} {q : Int} (hb : InForm b q) (hn : b ≠ []) (p : Int) : cmpD [] p b q = -1 := by
  unfold cmpD
  have h3 : 0 < sv b q (min (p - (([] : List UInt8).length : Int)) (q - b.length)) := Nat.mul_pos (Nat.pos_of_ne_zero (val_pos hb.1 hb.2.1 hn)) (Nat.pow_pos (by omega))
  rw [cmpN_lt]
  simpa [sv, val_nil] using h3
theorem cmpD_nil_right {a : List UInt8} {p : Int} (ha : InForm a p) (hn : a ≠ []) (q : Int) : cmpD a p [] q = 1 := by
  unfold cmpD
  have h3 : 0 < sv a p (min (p - (a.length : Int)) (q - (([] : List UInt8).length : Int))) := Nat.mul_pos (Nat.pos_of_ne_zero (val_pos ha.1 ha.2.1 hn)) (Nat.pow_pos (by omega))
  rw [cmpN_gt]
  simpa [sv, val_nil] using h3
theorem rcmp_eq {a b : List UInt8} {p q : Int} (ha : InForm a p) (hb : InForm b q) (hba : a.length ≤ 10000 ∧ -20000 ≤ p ∧ p ≤ 20000) (hbb : b.length ≤ 10000 ∧ -20000 ≤ q ∧ q ≤ 20000) :
    Ev (fun k => platenref04_Compare.f k (S a) p (S b) q) (cmpD a p b q) := by
  unfold platenref04_Compare.f
  rw [toList_L, L_S, toList_L, L_S]
  by_cases h1 : a = []
  · refine Ev.congr (f := fun k => platenref04_Compare.j0 k (b == []) (S a) p (S b) q) (fun k => by rw [if_pos h1]) ?_
    by_cases h2 : b = []
    · refine Ev.step (f := fun _ => some (cmpD a p b q)) (fun k => ?_) (Ev.now _)
      simp only [platenref04_Compare.j0]
      rw [if_pos (by rw [h2]; rfl), h1, h2]
      unfold cmpD
      simp [sv, val_nil, cmpN]
    · refine Ev.step (f := fun _ => some (cmpD a p b q)) (fun k => ?_) (Ev.now _)
      simp only [platenref04_Compare.j0]
      rw [if_neg (by simpa using h2), toList_L, L_S, if_pos h1, h1, cmpD_nil_left hb h2]
  · refine Ev.congr (f := fun k => platenref04_Compare.j0 k false (S a) p (S b) q) (fun k => by rw [if_neg h1]) ?_
    by_cases h2 : b = []
    · refine Ev.step (f := fun _ => some (cmpD a p b q)) (fun k => ?_) (Ev.now _)
      simp only [platenref04_Compare.j0]
      rw [if_neg (by simp), toList_L, L_S, if_neg h1, toList_L, L_S, if_pos h2, h2, cmpD_nil_right ha h1]
    · have key : ∀ (E : Int), E = min (p - (a.length : Int)) (q - b.length) → ∀ top : Int, top = max p q → Ev (fun k => platenref04_Compare.l0 k E top (S a) p (S b) q) (cmpD a p b q) := by
        intro E hE top ht
        have h3 := rcmp_l0 (E := E) (p := p) (q := q) ha.1 hb.1 (by omega) (by omega) (by omega) (by omega) (by omega) (top - E + 1).toNat (by omega)
        have e : E + ((top - E + 1).toNat : Int) - 1 = top := by omega
        rw [e, mod_sv (E := E) (p := p) ha.1 (by omega) _ (by omega), mod_sv (E := E) (p := q) hb.1 (by omega) _ (by omega), ← cmpD_at (E := E) (by omega) (by omega)] at h3
        exact h3
      have key2 : ∀ top : Int, top = max p q → Ev (fun k => platenref04_Compare.j1 k top (p - a.length) (S a) p (S b) q) (cmpD a p b q) := by
        intro top ht
        by_cases h4 : q - (b.length : Int) < p - a.length
        · refine Ev.step (f := fun k => platenref04_Compare.j2 k top (q - b.length) (S a) p (S b) q) (fun k => ?_) (Ev.step (fun k => rfl) (key _ (by omega) top ht))
          simp only [platenref04_Compare.j1]
          rw [low_eq b q (by omega), Option.bind_some, if_pos h4, Option.bind_some]
        · refine Ev.step (f := fun k => platenref04_Compare.j2 k top (p - a.length) (S a) p (S b) q) (fun k => ?_) (Ev.step (fun k => rfl) (key _ (by omega) top ht))
          simp only [platenref04_Compare.j1]
          rw [low_eq b q (by omega), Option.bind_some, if_neg h4]
      by_cases h5 : q > p
      · refine Ev.step (f := fun k => platenref04_Compare.j1 k q (p - a.length) (S a) p (S b) q) (fun k => ?_) (key2 q (by omega))
        simp only [platenref04_Compare.j0]
        rw [if_neg (by simp), toList_L, L_S, if_neg h1, toList_L, L_S, if_neg h2, low_eq a p (by omega), Option.bind_some, if_pos h5]
      · refine Ev.step (f := fun k => platenref04_Compare.j1 k p (p - a.length) (S a) p (S b) q) (fun k => ?_) (key2 p (by omega))
        simp only [platenref04_Compare.j0]
        rw [if_neg (by simp), toList_L, L_S, if_neg h1, toList_L, L_S, if_neg h2, low_eq a p (by omega), Option.bind_some, if_neg h5]
theorem rcmpS_eq (s : ByteArray) (p : Int) (t : ByteArray) (q : Int) : Ev (fun k => platenref04_Cmp.f k s p t q) (cmpS s p t q) := by
  unfold platenref04_Cmp.f cmpS
  refine Ev.bind (rNorm_eq s p) ?_
  rcases normS_cases s p with ⟨e, h1, h2, _⟩ | ⟨l, u, h1, hf1, b1, b2, b3, _⟩
  · rw [h1, if_neg h2]
    exact Ev.congr (fun k => by rw [if_neg h2]) (Ev.now _)
  · rw [h1, if_pos rfl]
    refine Ev.congr (fun k => by rw [if_pos rfl]) (Ev.bind (f := fun k bt326 => if bt326.2.2 = 0 then ((platenref04_Compare.f k (S l) u bt326.1 bt326.2.1).bind fun t330 => some (t330, (0 : Int))) else some (0, bt326.2.2)) (rNorm_eq t q) ?_)
    rcases normS_cases t q with ⟨e, h3, h4, _⟩ | ⟨m, v, h3, hf2, c1, c2, c3, _⟩
    · rw [h3, if_neg h4]
      exact Ev.congr (fun k => by rw [if_neg h4]) (Ev.now _)
    · rw [h3, if_pos rfl]
      refine Ev.congr (fun k => by rw [if_pos rfl]) (Ev.bind (f := fun _ x => some (x, (0 : Int))) (rcmp_eq hf1 hf2 (by omega) (by omega)) (Ev.now _))
end Go.Proofs.YtobidkjmgkmaoaaDoor.Pure
