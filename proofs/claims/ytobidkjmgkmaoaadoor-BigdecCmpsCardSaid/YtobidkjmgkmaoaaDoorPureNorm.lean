/- Plain law: what Norm comes to, in the program and in the reference. -/
import Derived.Test.YtobidkjmgkmaoaaDoorPureDec
import Derived.Test.YtobidkjmgkmaoaaDoorFnBigdecFormLo
import Derived.Test.YtobidkjmgkmaoaaDoorFnBigdecNorm
import Derived.Test.YtobidkjmgkmaoaaDoorFnPlatenref04In
import Derived.Test.YtobidkjmgkmaoaaDoorFnPlatenref04Norm
import Derived.Test.YtobidkjmgkmaoaaDoorHandTrim
namespace Go.Proofs.YtobidkjmgkmaoaaDoor.Pure
open Go.RowKit Go.Proofs.YtobidkjmgkmaoaaDoorW.PrintWords Go.Proofs.YtobidkjmgkmaoaaDoor.Fn
set_option linter.unusedVariables false
set_option linter.unusedSimpArgs false
/-! ### texts and lists -/
abbrev L (s : ByteArray) : List UInt8 := s.data.toList
def S (l : List UInt8) : ByteArray := ⟨l.toArray⟩
theorem L_S (l : List UInt8) : L (S l) = l := rfl
theorem S_L (s : ByteArray) : S (L s) = s := Lib.mk_data s
theorem size_L (s : ByteArray) : s.size = (L s).length := Lib.size_eq s
theorem size_S (l : List UInt8) : (S l).size = l.length := by rw [size_L, L_S]
theorem toList_L (s : ByteArray) : s.toList = L s := Lib.toList_data s
theorem bt_L (s : ByteArray) (i : Nat) (h : i < s.size) : bt s (i : Int) = (((L s)[i]'(by rw [← size_L]; exact h)).toNat : Int) := by
  unfold bt
  rw [dif_pos (by simpa using h)]
  simp only [Int.toNat_natCast]
  rfl
theorem L_extract (s : ByteArray) (a b : Nat) : L (s.extract a b) = ((L s).drop a).take (b - a) := Lib.extract_data s a b
theorem wrap_id {x : Int} (h1 : -9223372036854775808 ≤ x) (h2 : x ≤ 9223372036854775807) : wrap64 x = x := by unfold wrap64; omega
/-! ### form -/
def decS (d : List UInt8 × Int) : ByteArray × Int := (S d.1, d.2)
theorem trimL (s : ByteArray) : strings_TrimLeft.f s ⟨#[48]⟩ = some (S (dz (L s))) := by
  show (if (48 : UInt8).toNat < 128 then some ((⟨(Lib.trimLeftB s.data.toList 48).toArray⟩ : ByteArray)) else none) = _
  rw [if_pos (by decide)]; rfl
theorem trimR (s : ByteArray) (h : s.size ≤ 9223372036854775807) : strings_TrimRight.f s ⟨#[48]⟩ = some (S (rz (L s))) := by
  show (if (48 : UInt8).toNat < 128 ∧ s.size ≤ 9223372036854775807 then some ((⟨(Lib.trimRightB s.data.toList 48).toArray⟩ : ByteArray)) else none) = _
  rw [if_pos ⟨by decide, h⟩]; rfl
theorem form_eq (s : ByteArray) (p : Int) (hs : s.size ≤ 4611686018427387904) (h1 : -4611686018427387904 ≤ p) (h2 : p ≤ 4611686018427387904) : bigdec_form.f s p = some (decS (formL (L s) p)) := by
  have hl := length_dz (L s)
  rw [← size_L] at hl
  unfold bigdec_form.f
  rw [trimL, Option.bind_some, trimR _ (by rw [size_S]; omega), Option.bind_some, toList_L, L_S, L_S]
  unfold formL decS
  by_cases h : rz (dz (L s)) = []
  · rw [if_pos h, if_pos h]; rfl
  · rw [if_neg h, if_neg h, size_S, wrap_id (x := (s.size : Int) - _) (by omega) (by omega), wrap_id (by omega) (by omega), size_L]
/-! ### Norm -/
def noDec : ByteArray × Int × Int := (⟨#[]⟩, 0, 4)
def normTail (l0 : List UInt8) (p : Int) (l : List UInt8) : ByteArray × Int × Int :=
  if l.all isD = true then (if p < -5000 then (⟨#[]⟩, 0, 2) else if p > 5000 then (⟨#[]⟩, 0, 2) else ((decS (formL l0 p)).1, (decS (formL l0 p)).2, 0)) else (⟨#[]⟩, 0, 4)
def normS (s : ByteArray) (p : Int) : ByteArray × Int × Int := if s.size > 2000 then (⟨#[]⟩, 0, 2) else normTail (L s) p (L s)
theorem isD_iff (c : UInt8) : isD c = true ↔ 48 ≤ c.toNat ∧ c.toNat ≤ 57 := by
  unfold isD; simp
theorem drop_at (l : List UInt8) (i : Nat) (h : i < l.length) : l.drop i = l[i] :: l.drop (i + 1) := List.drop_eq_getElem_cons h
theorem norm_l0 (s : ByteArray) (p : Int) (hs : s.size ≤ 2000) : ∀ d i, i + d = s.size → Ev (fun k => bigdec_Norm.l0 k (bytesOf s) (s.size : Int) (i : Int) s p) (normTail (L s) p ((L s).drop i)) := by
  intro d
  induction d with
  | zero =>
    intro i hi
    refine Ev.step (f := fun _ => some (normTail (L s) p ((L s).drop i))) (fun k => ?_) (Ev.now _)
    simp only [bigdec_Norm.l0]
    rw [if_neg (by omega)]
    have : (L s).drop i = [] := List.drop_of_length_le (by rw [← size_L]; omega)
    rw [this]
    unfold normTail
    rw [if_pos (show ([] : List UInt8).all isD = true from rfl)]
    by_cases h1 : p < -5000
    · rw [if_pos h1, if_pos h1]
    · rw [if_neg h1, if_neg h1]
      by_cases h2 : p > 5000
      · rw [if_pos h2, if_pos h2]
      · rw [if_neg h2, if_neg h2, form_eq s p (by omega) (by omega) (by omega)]; rfl
  | succ d ih =>
    intro i hi
    have hlt : i < s.size := by omega
    have hc : rd (bytesOf s) (i : Int) = (((L s)[i]'(by rw [← size_L]; exact hlt)).toNat : Int) := (rd_bytesOf s i).trans (bt_L s i hlt)
    have hd := drop_at (L s) i (by rw [← size_L]; exact hlt)
    generalize hcc : (L s)[i]'(by rw [← size_L]; exact hlt) = c at hc hd
    have hlen : ((bytesOf s).length : Int) = (s.size : Int) := by rw [bytesOf_length]
    by_cases hb : isD c = true
    · have h48 := (isD_iff c).1 hb
      have e : normTail (L s) p ((L s).drop i) = normTail (L s) p ((L s).drop (i + 1)) := by
        rw [hd]; unfold normTail
        rw [List.all_cons, hb, Bool.true_and]
      rw [e]
      refine Ev.step (f := fun k => bigdec_Norm.l0 k (bytesOf s) (s.size : Int) ((i + 1 : Nat) : Int) s p) (fun k => ?_) (ih (i + 1) (by omega))
      simp only [bigdec_Norm.l0]
      rw [if_pos (by omega), if_pos (by omega), if_pos (by omega), hc, if_neg (by omega), if_neg (by omega), wrap_id (by omega) (by omega)]
      rfl
    · have e : normTail (L s) p ((L s).drop i) = (⟨#[]⟩, 0, 4) := by
        rw [hd]; unfold normTail
        rw [List.all_cons, if_neg (by simp [hb])]
      rw [e]
      have h48 : ¬ (48 ≤ c.toNat ∧ c.toNat ≤ 57) := fun h => hb ((isD_iff c).2 h)
      refine Ev.step (f := fun _ => some ((⟨#[]⟩ : ByteArray), (0 : Int), (4 : Int))) (fun k => ?_) (Ev.now _)
      simp only [bigdec_Norm.l0]
      rw [if_pos (by omega), if_pos (by omega), if_pos (by omega), hc]
      by_cases h1 : (c.toNat : Int) < 48
      · rw [if_pos h1]
      · rw [if_neg h1, if_pos (by omega)]
theorem norm_eq (s : ByteArray) (p : Int) : Ev (fun k => bigdec_Norm.f k s p) (normS s p) := by
  unfold bigdec_Norm.f normS
  by_cases h : s.size > 2000
  · rw [if_pos h]
    exact Ev.congr (fun k => by rw [if_pos (by omega)]) (Ev.now _)
  · rw [if_neg h]
    refine Ev.congr (f := fun k => bigdec_Norm.l0 k (bytesOf s) (s.size : Int) ((0 : Nat) : Int) s p) (fun k => ?_) ?_
    · rw [if_neg (by omega), if_pos (by omega), Option.bind_some, bytesOf_length]; rfl
    · have := norm_l0 s p (by omega) s.size 0 (by omega)
      rw [List.drop_zero] at this
      exact this
/-! ### the reference's In and Norm -/
theorem rIn_l1 (p : Int) : ∀ (n : Nat) (s : ByteArray), s.size = n → n ≤ 1000000 → (L s = [] → p = p) → Ev (fun k => platenref04_In.l1 k s p) (S (rz (L s)), if rz (L s) = [] then 0 else p) := by
  intro n
  induction n with
  | zero =>
    intro s hs _ _
    have hl : L s = [] := List.eq_nil_of_length_eq_zero (by rw [← size_L]; exact hs)
    refine Ev.step (f := fun _ => some (s, (0 : Int))) (fun k => ?_) ?_
    · simp only [platenref04_In.l1]
      rw [if_pos (by rw [toList_L, hl])]
    · rw [hl, rz_nil, if_pos rfl]
      have : s = S [] := by rw [← S_L s, hl]
      rw [this]; exact Ev.now _
  | succ n ih =>
    intro s hs hn _
    have hne : L s ≠ [] := by intro e; have h_ := size_L s; rw [e, List.length_nil] at h_; omega
    obtain ⟨t, c, hl⟩ : ∃ t c, L s = t ++ [c] := by
      rcases List.eq_nil_or_concat (L s) with h | ⟨t, c, h⟩
      · exact absurd h hne
      · exact ⟨t, c, by rw [h, List.concat_eq_append]⟩
    have htl : t.length = n := by have := size_L s; rw [hl, List.length_append] at this; simp at this; omega
    have hb : bt s ((n : Nat) : Int) = (c.toNat : Int) := by
      rw [bt_L s n (by omega)]
      have : (L s)[n]'(by rw [← size_L]; omega) = c := by
        simp only [hl]
        rw [List.getElem_append_right (by omega)]
        simp [htl]
      rw [this]
    have hw : wrap64 ((s.size : Int) - 1) = (n : Int) := by rw [wrap_id (by omega) (by omega)]; omega
    by_cases h : c.toNat = 48
    · have hx : L (s.extract 0 n) = t := by rw [L_extract, hl]; simp [htl]
      rw [hl, rz_snoc_eq h]
      have := ih (s.extract 0 n) (by rw [size_L, hx, htl]) (by omega) (fun _ => rfl)
      rw [hx] at this
      refine Ev.step (f := fun k => platenref04_In.l1 k (s.extract 0 n) p) (fun k => ?_) this
      simp only [platenref04_In.l1]
      rw [if_neg (by rw [toList_L]; exact hne), hw, if_pos (by omega), if_pos (by omega), hb, if_pos (by omega), if_pos (by omega)]
      simp
    · rw [hl, rz_snoc_ne h, if_neg (by simp)]
      refine Ev.step (f := fun _ => some (s, p)) (fun k => ?_) ?_
      · simp only [platenref04_In.l1]
        rw [if_neg (by rw [toList_L]; exact hne), hw, if_pos (by omega), if_pos (by omega), hb, if_neg (by omega)]
      · have : s = S (t ++ [c]) := by rw [← hl, S_L]
        rw [this]; exact Ev.now _
theorem rIn_l0 : ∀ (n : Nat) (s : ByteArray) (p : Int), s.size = n → n ≤ 1000000 → -4611686018427387904 + n ≤ p → p ≤ 4611686018427387904 → Ev (fun k => platenref04_In.l0 k s p) (decS (formL (L s) p)) := by
  intro n
  induction n with
  | zero =>
    intro s p hs _ _ _
    have hl : L s = [] := List.eq_nil_of_length_eq_zero (by rw [← size_L]; exact hs)
    have h1 := rIn_l1 p 0 s hs (by omega) (fun _ => rfl)
    refine Ev.step (f := fun k => platenref04_In.j1 k s p) (fun k => ?_) (Ev.step (f := fun k => platenref04_In.l1 k s p) (fun k => rfl) ?_)
    · simp only [platenref04_In.l0]
      rw [if_pos (by rw [toList_L, hl])]
    · rw [hl] at h1 ⊢
      exact h1
  | succ n ih =>
    intro s p hs hn h1 h2
    have hne : L s ≠ [] := by intro e; have h_ := size_L s; rw [e, List.length_nil] at h_; omega
    obtain ⟨c, t, hl⟩ : ∃ c t, L s = c :: t := by
      cases h : L s with
      | nil => exact absurd h hne
      | cons c t => exact ⟨c, t, rfl⟩
    have htl : t.length = n := by have := size_L s; rw [hl, List.length_cons] at this; omega
    have hb : bt s ((0 : Nat) : Int) = (c.toNat : Int) := by
      rw [bt_L s 0 (by omega)]
      simp only [hl]
      rfl
    by_cases h : c.toNat = 48
    · have hx : L (s.extract 1 s.size) = t := by rw [L_extract, hl]; simp [List.take_of_length_le, htl, hs]
      have := ih (s.extract 1 s.size) (p - 1) (by rw [size_L, hx, htl]) (by omega) (by omega) (by omega)
      rw [hx] at this
      have e : formL (L s) p = formL t (p - 1) := by
        rw [hl]; unfold formL
        rw [dz_cons_eq h]
        by_cases hz : rz (dz t) = []
        · rw [if_pos hz, if_pos hz]
        · rw [if_neg hz, if_neg hz, List.length_cons]
          congr 1
          omega
      rw [e]
      refine Ev.step (f := fun k => platenref04_In.l0 k (s.extract 1 s.size) (p - 1)) (fun k => ?_) this
      simp only [platenref04_In.l0]
      rw [if_neg (by rw [toList_L]; exact hne), if_pos (by omega)]
      rw [show ((0 : Int)) = ((0 : Nat) : Int) from rfl, hb, if_pos (by omega), if_pos (by omega), wrap_id (by omega) (by omega)]
    · have h3 := rIn_l1 p (n + 1) s hs (by omega) (fun _ => rfl)
      have e : decS (formL (L s) p) = (S (rz (L s)), if rz (L s) = [] then 0 else p) := by
        unfold formL decS
        rw [hl, dz_cons_ne h]
        by_cases hz : rz (c :: t) = []
        · rw [if_pos hz, if_pos hz, hz]
        · rw [if_neg hz, if_neg hz]
          congr 1
          show p - _ = p
          omega
      rw [e]
      refine Ev.step (f := fun k => platenref04_In.j1 k s p) (fun k => ?_) (Ev.step (f := fun k => platenref04_In.l1 k s p) (fun k => rfl) h3)
      simp only [platenref04_In.l0]
      rw [if_neg (by rw [toList_L]; exact hne), if_pos (by omega)]
      rw [show ((0 : Int)) = ((0 : Nat) : Int) from rfl, hb, if_neg (by omega)]
theorem rIn_eq (s : ByteArray) (p : Int) (hs : s.size ≤ 1000000) (h1 : -4000000000000000000 ≤ p) (h2 : p ≤ 4000000000000000000) : Ev (fun k => platenref04_In.f k s p) (decS (formL (L s) p)) :=
  rIn_l0 s.size s p rfl hs (by omega) (by omega)
theorem rNorm_l0 (s : ByteArray) (p : Int) (hs : s.size ≤ 2000) : ∀ d i, i + d = s.size → Ev (fun k => platenref04_Norm.l0 k (i : Int) s p) (normTail (L s) p ((L s).drop i)) := by
  intro d
  induction d with
  | zero =>
    intro i hi
    have hn : (L s).drop i = [] := List.drop_of_length_le (by rw [← size_L]; omega)
    rw [hn]
    unfold normTail
    rw [if_pos (show ([] : List UInt8).all isD = true from rfl)]
    by_cases h1 : p < -5000
    · rw [if_pos h1]
      refine Ev.step (f := fun _ => some ((⟨#[]⟩ : ByteArray), (0 : Int), (2 : Int))) (fun k => ?_) (Ev.now _)
      simp only [platenref04_Norm.l0]
      rw [if_neg (by omega), if_pos h1]
    · rw [if_neg h1]
      by_cases h2 : p > 5000
      · rw [if_pos h2]
        refine Ev.step (f := fun _ => some ((⟨#[]⟩ : ByteArray), (0 : Int), (2 : Int))) (fun k => ?_) (Ev.now _)
        simp only [platenref04_Norm.l0]
        rw [if_neg (by omega), if_neg h1, if_pos h2]
      · rw [if_neg h2]
        refine Ev.step (f := fun k => (platenref04_In.f k s p).bind fun bt118 => (some (bt118.1, bt118.2, 0))) (fun k => ?_) (Ev.bind (rIn_eq s p (by omega) (by omega) (by omega)) (Ev.now _))
        simp only [platenref04_Norm.l0]
        rw [if_neg (by omega), if_neg h1, if_neg h2]
  | succ d ih =>
    intro i hi
    have hlt : i < s.size := by omega
    have hc : bt s (i : Int) = (((L s)[i]'(by rw [← size_L]; exact hlt)).toNat : Int) := bt_L s i hlt
    have hd := drop_at (L s) i (by rw [← size_L]; exact hlt)
    generalize hcc : (L s)[i]'(by rw [← size_L]; exact hlt) = c at hc hd
    by_cases hb : isD c = true
    · have h48 := (isD_iff c).1 hb
      have e : normTail (L s) p ((L s).drop i) = normTail (L s) p ((L s).drop (i + 1)) := by
        rw [hd]; unfold normTail
        rw [List.all_cons, hb, Bool.true_and]
      rw [e]
      refine Ev.step (f := fun k => platenref04_Norm.l0 k ((i + 1 : Nat) : Int) s p) (fun k => ?_) (ih (i + 1) (by omega))
      simp only [platenref04_Norm.l0]
      rw [if_pos (by omega), if_pos (by omega), hc, if_neg (by omega), if_neg (by omega), wrap_id (by omega) (by omega)]
      rfl
    · have e : normTail (L s) p ((L s).drop i) = (⟨#[]⟩, 0, 4) := by
        rw [hd]; unfold normTail
        rw [List.all_cons, if_neg (by simp [hb])]
      rw [e]
      have h48 : ¬ (48 ≤ c.toNat ∧ c.toNat ≤ 57) := fun h => hb ((isD_iff c).2 h)
      refine Ev.step (f := fun _ => some ((⟨#[]⟩ : ByteArray), (0 : Int), (4 : Int))) (fun k => ?_) (Ev.now _)
      simp only [platenref04_Norm.l0]
      rw [if_pos (by omega), if_pos (by omega), hc]
      by_cases h1 : (c.toNat : Int) < 48
      · rw [if_pos h1]
      · rw [if_neg h1, if_pos (by omega)]
theorem rNorm_eq (s : ByteArray) (p : Int) : Ev (fun k => platenref04_Norm.f k s p) (normS s p) := by
  unfold platenref04_Norm.f normS
  by_cases h : s.size > 2000
  · rw [if_pos h]
    exact Ev.congr (fun k => by rw [if_pos (by omega)]) (Ev.now _)
  · rw [if_neg h]
    have := rNorm_l0 s p (by omega) s.size 0 (by omega)
    rw [List.drop_zero] at this
    exact Ev.congr (fun k => by rw [if_neg (by omega)]; rfl) this
end Go.Proofs.YtobidkjmgkmaoaaDoor.Pure
