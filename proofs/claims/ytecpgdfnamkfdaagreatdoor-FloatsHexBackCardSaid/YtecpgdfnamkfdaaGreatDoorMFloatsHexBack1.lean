/- The law FloatsHexBack: the walks through its functions and its plain law (part 1). Own texts and the kit's printed words for this seat, without what the law does not use: put together by merge.py (of this work). -/
import Derived.Test.YtecpgdfnamkfdaaGreatDoorMFloatsHexBack0
section
namespace Go.Proofs.YtecpgdfnamkfdaaGreatDoor.Pure
open Go.RowKit Go.Proofs.YtecpgdfnamkfdaaGreatDoorW.PrintWords Go.Proofs.YtecpgdfnamkfdaaGreatDoor.Fn
set_option linter.unusedVariables false
set_option linter.unusedSimpArgs false
abbrev L (s : ByteArray) : List UInt8 := s.data.toList
def S (l : List UInt8) : ByteArray := ⟨l.toArray⟩
theorem L_S (l : List UInt8) : L (S l) = l := rfl
theorem S_L (s : ByteArray) : S (L s) = s := Lib.mk_data s
theorem size_L (s : ByteArray) : s.size = (L s).length := Lib.size_eq s
theorem size_S (l : List UInt8) : (S l).size = l.length := by rw [size_L, L_S]
theorem toList_L (s : ByteArray) : s.toList = L s := Lib.toList_data s
theorem bt_L (s : ByteArray) (i : Nat) (h : i < s.size) : bt s (i : Int) = (((L s)[i]'(by rw [← size_L]; exact h)).toNat : Int) := by
  unfold bt
  rw [dif_pos (by simpa using h)]
  simp only [Int.toNat_natCast]
  rfl
theorem L_extract (s : ByteArray) (a b : Nat) : L (s.extract a b) = ((L s).drop a).take (b - a) := Lib.extract_data s a b
theorem wrap_id {x : Int} (h1 : -9223372036854775808 ≤ x) (h2 : x ≤ 9223372036854775807) : wrap64 x = x := by unfold wrap64; omega
def decS (d : List UInt8 × Int) : ByteArray × Int := (S d.1, d.2)
theorem trimL (s : ByteArray) : strings_TrimLeft.f s ⟨#[48]⟩ = some (S (dz (L s))) := by
  show (if (48 : UInt8).toNat < 128 then some ((⟨(Lib.trimLeftB s.data.toList 48).toArray⟩ : ByteArray)) else none) = _
  rw [if_pos (by decide)]; rfl
theorem trimR (s : ByteArray) (h : s.size ≤ 9223372036854775807) : strings_TrimRight.f s ⟨#[48]⟩ = some (S (rz (L s))) := by
  show (if (48 : UInt8).toNat < 128 ∧ s.size ≤ 9223372036854775807 then some ((⟨(Lib.trimRightB s.data.toList 48).toArray⟩ : ByteArray)) else none) = _
  rw [if_pos ⟨by decide, h⟩]; rfl
theorem form_eq (s : ByteArray) (p : Int) (hs : s.size ≤ 4611686018427387904) (h1 : -4611686018427387904 ≤ p) (h2 : p ≤ 4611686018427387904) : bigdec_form.f s p = some (decS (formL (L s) p)) := by
  have hl := length_dz (L s)
  rw [← size_L] at hl
  unfold bigdec_form.f
  rw [trimL, Option.bind_some, trimR _ (by rw [size_S]; omega), Option.bind_some, toList_L, L_S, L_S]
  unfold formL decS
  by_cases h : rz (dz (L s)) = []
  · rw [if_pos h, if_pos h]; rfl
  · rw [if_neg h, if_neg h, size_S, wrap_id (x := (s.size : Int) - _) (by omega) (by omega), wrap_id (by omega) (by omega), size_L]
def normTail (l0 : List UInt8) (p : Int) (l : List UInt8) : ByteArray × Int × Int :=
  if l.all isD = true then (if p < -5000 then (⟨#[]⟩, 0, 2) else if p > 5000 then (⟨#[]⟩, 0, 2) else ((decS (formL l0 p)).1, (decS (formL l0 p)).2, 0)) else (⟨#[]⟩, 0, 4)
def normS (s : ByteArray) (p : Int) : ByteArray × Int × Int := if s.size > 2000 then (⟨#[]⟩, 0, 2) else normTail (L s) p (L s)
theorem isD_iff (c : UInt8) : isD c = true ↔ 48 ≤ c.toNat ∧ c.toNat ≤ 57 := by
  unfold isD; simp
theorem drop_at (l : List UInt8) (i : Nat) (h : i < l.length) : l.drop i = l[i] :: l.drop (i + 1) := List.drop_eq_getElem_cons h
theorem norm_l0 (s : ByteArray) (p : Int) (hs : s.size ≤ 2000) : ∀ d i, i + d = s.size → Ev (fun k => bigdec_Norm.l0 k (bytesOf s) (s.size : Int) (i : Int) s p) (normTail (L s) p ((L s).drop i)) := by
  intro d
  induction d with
  | zero =>
    intro i hi
    refine Ev.step (f := fun _ => some (normTail (L s) p ((L s).drop i))) (fun k => ?_) (Ev.now _)
    simp only [bigdec_Norm.l0]
    rw [if_neg (by omega)]
    have : (L s).drop i = [] := List.drop_of_length_le (by rw [← size_L]; omega)
    rw [this]
    unfold normTail
    rw [if_pos (show ([] : List UInt8).all isD = true from rfl)]
    by_cases h1 : p < -5000
    · rw [if_pos h1, if_pos h1]
    · rw [if_neg h1, if_neg h1]
      by_cases h2 : p > 5000
      · rw [if_pos h2, if_pos h2]
      · rw [if_neg h2, if_neg h2, form_eq s p (by omega) (by omega) (by omega)]; rfl
  | succ d ih =>
    intro i hi
    have hlt : i < s.size := by omega
    have hc : rd (bytesOf s) (i : Int) = (((L s)[i]'(by rw [← size_L]; exact hlt)).toNat : Int) := (rd_bytesOf s i).trans (bt_L s i hlt)
    have hd := drop_at (L s) i (by rw [← size_L]; exact hlt)
    generalize hcc : (L s)[i]'(by rw [← size_L]; exact hlt) = c at hc hd
    have hlen : ((bytesOf s).length : Int) = (s.size : Int) := by rw [bytesOf_length]
    by_cases hb : isD c = true
    · have h48 := (isD_iff c).1 hb
      have e : normTail (L s) p ((L s).drop i) = normTail (L s) p ((L s).drop (i + 1)) := by
        rw [hd]; unfold normTail
        rw [List.all_cons, hb, Bool.true_and]
      rw [e]
      refine Ev.step (f := fun k => bigdec_Norm.l0 k (bytesOf s) (s.size : Int) ((i + 1 : Nat) : Int) s p) (fun k => ?_) (ih (i + 1) (by omega))
      simp only [bigdec_Norm.l0]
      rw [if_pos (by omega), if_pos (by omega), if_pos (by omega), hc, if_neg (by omega), if_neg (by omega), wrap_id (by omega) (by omega)]
      rfl
    · have e : normTail (L s) p ((L s).drop i) = (⟨#[]⟩, 0, 4) := by
        rw [hd]; unfold normTail
        rw [List.all_cons, if_neg (by simp [hb])]
      rw [e]
      have h48 : ¬ (48 ≤ c.toNat ∧ c.toNat ≤ 57) := fun h => hb ((isD_iff c).2 h)
      refine Ev.step (f := fun _ => some ((⟨#[]⟩ : ByteArray), (0 : Int), (4 : Int))) (fun k => ?_) (Ev.now _)
      simp only [bigdec_Norm.l0]
      rw [if_pos (by omega), if_pos (by omega), if_pos (by omega), hc]
      by_cases h1 : (c.toNat : Int) < 48
      · rw [if_pos h1]
      · rw [if_neg h1, if_pos (by omega)]
theorem norm_eq (s : ByteArray) (p : Int) : Ev (fun k => bigdec_Norm.f k s p) (normS s p) := by
  unfold bigdec_Norm.f normS
  by_cases h : s.size > 2000
  · rw [if_pos h]
    exact Ev.congr (fun k => by rw [if_pos (by omega)]) (Ev.now _)
  · rw [if_neg h]
    refine Ev.congr (f := fun k => bigdec_Norm.l0 k (bytesOf s) (s.size : Int) ((0 : Nat) : Int) s p) (fun k => ?_) ?_
    · rw [if_neg (by omega), if_pos (by omega), Option.bind_some, bytesOf_length]; rfl
    · have := norm_l0 s p (by omega) s.size 0 (by omega)
      rw [List.drop_zero] at this
      exact this
end Go.Proofs.YtecpgdfnamkfdaaGreatDoor.Pure
end
section
namespace Go.Proofs.YtecpgdfnamkfdaaGreatDoor.Pure
open Go.RowKit Go.Proofs.YtecpgdfnamkfdaaGreatDoorW.PrintWords
set_option linter.unusedVariables false
set_option linter.unusedSimpArgs false
theorem u64_id {x : Int} (h1 : 0 ≤ x) (h2 : x ≤ 18446744073709551615) : IntKind.u64.wrap x = x := by
  simp [IntKind.wrap, IntKind.bits, IntKind.signed]
  omega
theorem tmod_id {x y : Int} (h : 0 ≤ x) : Int.tmod x y = x % y := Int.tmod_eq_emod_of_nonneg h
theorem tdiv_id {x y : Int} (h : 0 ≤ x) : Int.tdiv x y = x / y := Int.tdiv_eq_ediv_of_nonneg h
def InB (B : Nat) (xs : List Int) : Prop := ∀ x ∈ xs, 0 ≤ x ∧ x < (B : Int)
def lv (B : Nat) : List Int → Nat
  | [] => 0
  | x :: xs => x.toNat + B * lv B xs
theorem InB.nil (B : Nat) : InB B [] := fun x h => by cases h
theorem InB.cons {B : Nat} {x : Int} {xs : List Int} (h : InB B (x :: xs)) : (0 ≤ x ∧ x < (B : Int)) ∧ InB B xs := ⟨h x List.mem_cons_self, fun y hy => h y (List.mem_cons_of_mem _ hy)⟩
theorem InB.mk {B : Nat} {x : Int} {xs : List Int} (h1 : 0 ≤ x ∧ x < (B : Int)) (h2 : InB B xs) : InB B (x :: xs) := by
  intro y hy
  rcases List.mem_cons.1 hy with rfl | h
  · exact h1
  · exact h2 y h
theorem InB.left {B : Nat} {a b : List Int} (h : InB B (a ++ b)) : InB B a := fun x hx => h x (List.mem_append_left _ hx)
theorem InB.append {B : Nat} {a b : List Int} (ha : InB B a) (hb : InB B b) : InB B (a ++ b) := fun x hx => (List.mem_append.1 hx).elim (ha x) (hb x)
theorem lv_append (B : Nat) (a b : List Int) : lv B (a ++ b) = lv B a + B ^ a.length * lv B b := by
  induction a with
  | nil => simp [lv]
  | cons x a ih =>
    rw [List.cons_append, lv, lv, ih, List.length_cons, Nat.pow_succ, Nat.mul_add]
    have : B * (B ^ a.length * lv B b) = B ^ a.length * B * lv B b := by rw [← Nat.mul_assoc, Nat.mul_comm B]
    omega
def mulGo (B by_ : Nat) : List Int → Nat → List Int
  | [], c => if c = 0 then [] else [(c : Int)]
  | x :: xs, c => (((x.toNat * by_ + c) % B : Nat) : Int) :: mulGo B by_ xs ((x.toNat * by_ + c) / B)
theorem mulGo_val {B by_ : Nat} (hB : 0 < B) : ∀ (xs : List Int) (c : Nat), lv B (mulGo B by_ xs c) = lv B xs * by_ + c
  | [], c => by
    unfold mulGo
    by_cases h : c = 0
    · rw [if_pos h, h]; simp [lv]
    · rw [if_neg h]; simp [lv]
  | x :: xs, c => by
    unfold mulGo
    rw [lv, lv, mulGo_val hB xs, Int.toNat_natCast, Nat.mul_add, Nat.add_mul, ← Nat.mul_assoc]
    have := Nat.mod_add_div (x.toNat * by_ + c) B
    omega
theorem mulGo_val0 {B by_ : Nat} (hB : 0 < B) (xs : List Int) : lv B (mulGo B by_ xs 0) = lv B xs * by_ := mulGo_val hB xs 0
theorem carry_le {B by_ x c : Nat} (hx : x < B) (hc : c ≤ by_) (hB : 0 < B) : (x * by_ + c) / B ≤ by_ := by
  have h1 : x * by_ + c ≤ B * by_ := by
    have : x * by_ ≤ (B - 1) * by_ := Nat.mul_le_mul_right _ (by omega)
    have h2 : (B - 1) * by_ + by_ = B * by_ := by
      have : (B - 1 + 1) * by_ = (B - 1) * by_ + by_ := Nat.succ_mul _ _
      rw [← this]; congr 1; omega
    omega
  calc (x * by_ + c) / B ≤ (B * by_) / B := Nat.div_le_div_right h1
    _ = by_ := Nat.mul_div_cancel_left _ hB
theorem mulGo_in {B by_ : Nat} (hby : by_ < B) : ∀ (xs : List Int) (c : Nat), InB B xs → c ≤ by_ → InB B (mulGo B by_ xs c)
  | [], c, _, hc => by
    unfold mulGo
    by_cases h : c = 0
    · rw [if_pos h]; exact InB.nil B
    · rw [if_neg h]; exact InB.mk ⟨by omega, by omega⟩ (InB.nil B)
  | x :: xs, c, h, hc => by
    unfold mulGo
    have hx := h.cons.1
    refine InB.mk ⟨by omega, ?_⟩ (mulGo_in hby xs _ h.cons.2 (carry_le (by omega) hc (by omega)))
    have := Nat.mod_lt (x.toNat * by_ + c) (show B > 0 by omega)
    omega
theorem mulGo_len {B by_ : Nat} : ∀ (xs : List Int) (c : Nat), (mulGo B by_ xs c).length ≤ xs.length + 1
  | [], c => by
    unfold mulGo
    by_cases h : c = 0
    · rw [if_pos h]; simp
    · rw [if_neg h]; simp
  | x :: xs, c => by
    unfold mulGo
    have := mulGo_len (B := B) (by_ := by_) xs ((x.toNat * by_ + c) / B)
    simp only [List.length_cons]
    omega
theorem rd_mid (a : List Int) (x : Int) (b : List Int) : rd (a ++ x :: b) (a.length : Int) = x := by
  unfold rd
  simp [List.getD_eq_getElem?_getD]
theorem set_mid (a : List Int) (x y : Int) (b : List Int) : (a ++ x :: b).set a.length y = a ++ y :: b := by
  rw [List.set_append_right _ _ (Nat.le_refl _)]
  simp
def dLE : Nat → Nat → List Int
  | 0, _ => []
  | f + 1, n => if n = 0 then [] else ((n % 10 : Nat) : Int) :: dLE f (n / 10)
theorem dLE_val : ∀ (f n : Nat), n < 10 ^ f → lv 10 (dLE f n) = n
  | 0, n, h => by simp at h; subst h; rfl
  | f + 1, n, h => by
    unfold dLE
    by_cases h0 : n = 0
    · rw [if_pos h0, h0]; rfl
    · rw [if_neg h0, lv, dLE_val f (n / 10) (by rw [Nat.pow_succ] at h; omega), Int.toNat_natCast]
      omega
theorem L_strOfNums (xs : List Int) : L (strOfNums xs) = xs.map fun n => UInt8.ofNat n.toNat := strOfNums_data xs
theorem lv_lt {B : Nat} {xs : List Int} (h : InB B xs) : lv B xs < B ^ xs.length := by
  induction xs with
  | nil => simp [lv]
  | cons x xs ih =>
    have h1 := ih h.cons.2
    have h2 := h.cons.1
    rw [lv, List.length_cons, Nat.pow_succ]
    have h3 : B * (lv B xs + 1) ≤ B * B ^ xs.length := Nat.mul_le_mul_left _ h1
    rw [Nat.mul_add, Nat.mul_one] at h3
    have : B * B ^ xs.length = B ^ xs.length * B := Nat.mul_comm _ _
    omega
theorem digs_len : ∀ (k n : Nat), n < 10 ^ k → (digs n).length ≤ k
  | 0, n, h => by simp at h; subst h; exact Nat.le_refl _
  | k + 1, n, h => by
    by_cases h0 : n = 0
    · subst h0; exact Nat.zero_le _
    · rw [digs_step h0, List.length_append]
      have := digs_len k (n / 10) (by rw [Nat.pow_succ] at h; omega)
      simp
      omega
end Go.Proofs.YtecpgdfnamkfdaaGreatDoor.Pure
end
section
namespace Go.Proofs.YtecpgdfnamkfdaaGreatDoor.Fn
open Go.RowKit Go.Proofs.YtecpgdfnamkfdaaGreatDoorW.PrintWords Go.Proofs.YtecpgdfnamkfdaaGreatDoorW.PrintLast Go.Proofs.YtecpgdfnamkfdaaGreatDoorW.PrintMore
attribute [local go_sem] fnW_0 fnW_1 fnW_2 fnW_3 fnW_4 fnW_5 fnW_guard fnW_eql max2_int min2_int max_two min_two
set_option linter.unusedVariables false
set_option linter.unusedSimpArgs false
def bigdec_cmp.j0 : Nat → Bool → ByteArray → Int → ByteArray → Int → Option (Int)
 | 0, _, _, _, _, _ => none
 | k + 1, x5, x126000, x126001, x127000, x127001 => if x5 = true then ((strings_Compare.f x126000 x127000).bind fun t127 => (some t127)) else (if x126001 < x127001 then (some (-1)) else (if x126001 > x127001 then (some 1) else ((strings_Compare.f x126000 x127000).bind fun t128 => (some t128))))
def bigdec_cmp.f (k : Nat) (a0_0 : ByteArray) (a0_1 : Int) (a1_0 : ByteArray) (a1_1 : Int) : Option (Int) := if a0_0.toList = ([] : List UInt8) then (bigdec_cmp.j0 k true a0_0 a0_1 a1_0 a1_1) else (bigdec_cmp.j0 k (a1_0.toList == ([] : List UInt8)) a0_0 a0_1 a1_0 a1_1)
set_option maxHeartbeats 8000000 in
set_option maxRecDepth 100000 in
theorem bigdec_cmp.calls (k : Nat) (a0_0 : ByteArray) (a0_1 : Int) (a1_0 : ByteArray) (a1_1 : Int) (r : Int) (w : World) (h : bigdec_cmp.f k a0_0 a0_1 a1_0 a1_1 = some r) :
  Calls Tryz.prog 128 #[.agg #[.string a0_0, .int .i64 a0_1], .agg #[.string a1_0, .int .i64 a1_1]] w fun e w' => e = .returned (.int .i64 r) ∧ Below w.heap.size w w' := by
 have hu42 := Tryz.underlying42
 have HB := Aside0.mk (Below.refl w.heap.size w)
 have H : (if a0_0.toList = ([] : List UInt8) then (bigdec_cmp.j0 k true a0_0 a0_1 a1_0 a1_1) else (bigdec_cmp.j0 k (a1_0.toList == ([] : List UInt8)) a0_0 a0_1 a1_0 a1_1)) = some r := h
 clear h
 have HC3 := Aside0.mk H
 clear H
 go_enter Tryz.func128, Tryz.ntmps128
 go_upto_region 1 with (first | ((with_reducible refine gate_dst (N := 2) rfl ?_); refine box_event rfl (N := 2) rfl (cs := #[.string a0_0, .int .i64 a0_1]) (t := 42) gz ?_; intro gb125 hg w4 hbox hb; have GE125 := gN bz hg; have BK125 := Aside0.mk hbox; replace HB := bN bz hb; clear hb hbox hg) | ((with_reducible refine gate_dst (N := 3) rfl ?_); refine box_event rfl (N := 3) rfl (cs := #[.string a1_0, .int .i64 a1_1]) (t := 42) gz ?_; intro gb126 hg w5 hbox hb; have GE126 := gN bz hg; have NB125_126 := lN (g := gb125) (cs := #[.string a0_0, .int .i64 a0_1]) hg bk; have NB126_125 := rN (g := gb125) (cs := #[.string a0_0, .int .i64 a0_1]) hg bk; replace BK125 := kN (g := gb125) (cs := #[.string a0_0, .int .i64 a0_1]) hb bk; have BK126 := Aside0.mk hbox; replace HB := bN bz hb; clear hb hbox hg))
 (try simp only [Act.put, List.setIfInBounds_toArray, List.set_cons_zero, List.set_cons_succ])
 go_cut [5] (fun v5 wc => ∃ (kq : Nat) (x5_2 : Bool), v5 = .bool x5_2 ∧ Aside0 (bigdec_cmp.j0 kq x5_2 a0_0 a0_1 a1_0 a1_1 = some r) ∧ Aside0 (kq ≤ k) ∧ Aside0 (wc.heap[gb125]? = some (.cells #[.string a0_0, .int .i64 a0_1] 42 (0, 0))) ∧ Aside0 (wc.heap[gb126]? = some (.cells #[.string a1_0, .int .i64 a1_1] 42 (0, 0))) ∧ Aside0 (Below w.heap.size w wc))
 case first =>
  have H := HC3.out
  clear HC3
  by_cases c6 : a0_0.toList = ([] : List UInt8)
  ·replace H := hE H c6
   have c6b0 : (a0_0.toList == ([] : List UInt8)) = true := beq_iff_eq.mpr c6
   have c6b1 : (a0_0.toList != ([] : List UInt8)) = false := bne_eq_false_iff_eq.mpr c6
   have c6b7 : a0_0.toList.isEmpty = true := by simpa using c6b0
   clear c6
   try first | rw [c6b0] | rw [c6b1] | rw [c6b7]
   have H' := Aside0.mk H
   clear H
   have hnb7 := NB125_126.out
   have hnc7 := NB126_125.out
   obtain ⟨hcz8_0, hcz8_1, hfz8_0, hfz8_1⟩ := cz2 (W := w5) BK125
   go_wp2
   go_meet
   case rel => exact ⟨_, (true), rz, H', ⟨by first | omega | exact Nat.le_refl _⟩, ⟨bk⟩, ⟨bk⟩, ⟨bz⟩⟩
  ·replace H := hN H c6
   have c6b0 : (a0_0.toList == ([] : List UInt8)) = false := beq_eq_false_iff_ne.mpr c6
   have c6b1 : (a0_0.toList != ([] : List UInt8)) = true := bne_iff_ne.mpr c6
   have c6b7 : a0_0.toList.isEmpty = false := by simpa using c6b0
   try first | rw [c6b0] | rw [c6b1] | rw [c6b7]
   have H' := Aside0.mk H
   clear H
   have hnb9 := NB125_126.out
   have hnc9 := NB126_125.out
   obtain ⟨hcz10_0, hcz10_1, hfz10_0, hfz10_1⟩ := cz2 (W := w5) BK125
   obtain ⟨hcz11_0, hcz11_1, hfz11_0, hfz11_1⟩ := cz2 (W := w5) BK126
   go_wp2
   go_meet
   case rel => exact ⟨_, ((a1_0.toList == ([] : List UInt8))), rz, H', ⟨by first | omega | exact Nat.le_refl _⟩, ⟨bk⟩, ⟨bk⟩, ⟨bz⟩⟩
 case rest =>
  clear HC3
  try clear c6
  try clear c6b0
  try clear c6b1
  try clear hcz10_0 hcz10_1 hfz10_0 hfz10_1
  try clear hcz11_0 hcz11_1 hfz11_0 hfz11_1
  try clear hcz8_0 hcz8_1 hfz8_0 hfz8_1
  obtain ⟨kq, x5_2, rfl, HA, HJ2, BK125, BK126, HB⟩ := hcut
  cases kq with
  | zero => exact absurd HA.out (by simp [bigdec_cmp.j0])
  | succ kj2 =>
   have H := HA.out
   clear HA
   simp only [bigdec_cmp.j0] at H
   by_cases c12 : x5_2 = true
   ·subst c12
    replace H := hT H
    replace H := bs H
    obtain ⟨t127, A13, H⟩ := H
    obtain rfl := Option.some.inj H
    have hnb14 := NB125_126.out
    have hnc14 := NB126_125.out
    obtain ⟨hcz15_0, hcz15_1, hfz15_0, hfz15_1⟩ := cz2 (W := wc) BK125
    obtain ⟨hcz16_0, hcz16_1, hfz16_0, hfz16_1⟩ := cz2 (W := wc) BK126
    go_wp2_with (first | ((with_reducible refine gate_callee (f := 155) rfl ?_); refine goesL_ (some 18) rfl rfl Tryz.func155 (by kernel_rfl) rfl #[.string a0_0, .string a1_0] rfl lz ?_; (with_reducible refine (strings_Compare.calls a0_0 a1_0 t127 _ A13.out).mono ?_); rintro e w17 ⟨rfl, hb⟩; refine ⟨_, rfl, ?_⟩; replace BK125 := kN (g := gb125) (cs := #[.string a0_0, .int .i64 a0_1]) hb bk; replace BK126 := kN (g := gb126) (cs := #[.string a1_0, .int .i64 a1_1]) hb bk; replace HB := bN bz hb; (try clear hb); (try clear hb2); (try clear hk); (try clear hi)))
    go_ret
    exact ⟨ez, bz⟩
   ·replace c12 := Bool.eq_false_iff.mpr c12
    subst c12
    replace H := hF H
    by_cases c18 : a0_1 < a1_1
    ·replace H := hE H c18
     have c18b0 := decide_eq_true c18
     clear c18
     obtain rfl := Option.some.inj H
     have hnb19 := NB125_126.out
     have hnc19 := NB126_125.out
     obtain ⟨hcz20_0, hcz20_1, hfz20_0, hfz20_1⟩ := cz2 (W := wc) BK125
     obtain ⟨hcz21_0, hcz21_1, hfz21_0, hfz21_1⟩ := cz2 (W := wc) BK126
     go_wp2
     go_ret
     exact ⟨ez, bz⟩
    ·replace H := hN H c18
     have c18b0 := decide_eq_false c18
     clear c18
     by_cases c22 : a0_1 > a1_1
     ·replace H := hE H c22
      have c22b0 : decide (a1_1 < a0_1) = true := decide_eq_true c22
      clear c22
      obtain rfl := Option.some.inj H
      have hnb23 := NB125_126.out
      have hnc23 := NB126_125.out
      obtain ⟨hcz24_0, hcz24_1, hfz24_0, hfz24_1⟩ := cz2 (W := wc) BK125
      obtain ⟨hcz25_0, hcz25_1, hfz25_0, hfz25_1⟩ := cz2 (W := wc) BK126
      go_wp2
      go_ret
      exact ⟨ez, bz⟩
     ·replace H := hN H c22
      have c22b0 : decide (a1_1 < a0_1) = false := decide_eq_false c22
      clear c22
      replace H := bs H
      obtain ⟨t128, A26, H⟩ := H
      obtain rfl := Option.some.inj H
      have hnb27 := NB125_126.out
      have hnc27 := NB126_125.out
      obtain ⟨hcz28_0, hcz28_1, hfz28_0, hfz28_1⟩ := cz2 (W := wc) BK125
      obtain ⟨hcz29_0, hcz29_1, hfz29_0, hfz29_1⟩ := cz2 (W := wc) BK126
      go_wp2_with (first | ((with_reducible refine gate_callee (f := 155) rfl ?_); refine goesL_ (some 35) rfl rfl Tryz.func155 (by kernel_rfl) rfl #[.string a0_0, .string a1_0] rfl lz ?_; (with_reducible refine (strings_Compare.calls a0_0 a1_0 t128 _ A26.out).mono ?_); rintro e w30 ⟨rfl, hb⟩; refine ⟨_, rfl, ?_⟩; replace BK125 := kN (g := gb125) (cs := #[.string a0_0, .int .i64 a0_1]) hb bk; replace BK126 := kN (g := gb126) (cs := #[.string a1_0, .int .i64 a1_1]) hb bk; replace HB := bN bz hb; (try clear hb); (try clear hb2); (try clear hk); (try clear hi)))
      go_ret
      exact ⟨ez, bz⟩
end Go.Proofs.YtecpgdfnamkfdaaGreatDoor.Fn
end
section
namespace Go.Proofs.YtecpgdfnamkfdaaGreatDoor.Fn
open Go.RowKit Go.Proofs.YtecpgdfnamkfdaaGreatDoorW.PrintWords Go.Proofs.YtecpgdfnamkfdaaGreatDoorW.PrintLast Go.Proofs.YtecpgdfnamkfdaaGreatDoorW.PrintMore
attribute [local go_sem] fnW_0 fnW_1 fnW_2 fnW_3 fnW_4 fnW_5 fnW_guard fnW_eql max2_int min2_int max_two min_two
set_option linter.unusedVariables false
set_option linter.unusedSimpArgs false
def bigdec_two.f (k : Nat) (a0_0 : ByteArray) (a0_1 : Int) (a1_0 : ByteArray) (a1_1 : Int) : Option (ByteArray × Int × ByteArray × Int × Int) := (bigdec_Norm.f k a0_0 a0_1).bind fun bt119 => (if bt119.2.2 = 0 then ((bigdec_Norm.f k a1_0 a1_1).bind fun bt122 => (some (bt119.1, bt119.2.1, bt122.1, bt122.2.1, bt122.2.2))) else (some (bt119.1, bt119.2.1, a1_0, a1_1, bt119.2.2)))
set_option maxHeartbeats 8000000 in
set_option maxRecDepth 100000 in
theorem bigdec_two.calls (k : Nat) (a0_0 : ByteArray) (a0_1 : Int) (a1_0 : ByteArray) (a1_1 : Int) (r1 : ByteArray) (r2 : Int) (r3 : ByteArray) (r4 : Int) (r5 : Int) (w : World) (h : bigdec_two.f k a0_0 a0_1 a1_0 a1_1 = some (r1, r2, r3, r4, r5)) :
  Calls Tryz.prog 127 #[.agg #[.string a0_0, .int .i64 a0_1], .agg #[.string a1_0, .int .i64 a1_1]] w fun e w' => e = .returned (.tuple #[.agg #[.string r1, .int .i64 r2], .agg #[.string r3, .int .i64 r4], .int .i64 r5]) ∧ Below w.heap.size w w' := by
 have hu42 := Tryz.underlying42
 have HB := Aside0.mk (Below.refl w.heap.size w)
 have H : ((bigdec_Norm.f k a0_0 a0_1).bind fun bt119 => (if bt119.2.2 = 0 then ((bigdec_Norm.f k a1_0 a1_1).bind fun bt122 => (some (bt119.1, bt119.2.1, bt122.1, bt122.2.1, bt122.2.2))) else (some (bt119.1, bt119.2.1, a1_0, a1_1, bt119.2.2)))) = some (r1, r2, r3, r4, r5) := h
 clear h
 replace H := bs H
 obtain ⟨⟨t119, t120, t121⟩, A3, H⟩ := H
 dsimp only at H
 go_enter Tryz.func127, Tryz.ntmps127
 go_upto_if 14 with (first | ((with_reducible refine gate_dst (N := 2) rfl ?_); refine box_event rfl (N := 2) rfl (cs := #[.string a0_0, .int .i64 a0_1]) (t := 42) gz ?_; intro gb115 hg w4 hbox hb; have GE115 := gN bz hg; have BK115 := Aside0.mk hbox; replace HB := bN bz hb; clear hb hbox hg) | ((with_reducible refine gate_dst (N := 3) rfl ?_); refine box_event rfl (N := 3) rfl (cs := #[.string a1_0, .int .i64 a1_1]) (t := 42) gz ?_; intro gb116 hg w5 hbox hb; have GE116 := gN bz hg; have NB115_116 := lN (g := gb115) (cs := #[.string a0_0, .int .i64 a0_1]) hg bk; have NB116_115 := rN (g := gb115) (cs := #[.string a0_0, .int .i64 a0_1]) hg bk; replace BK115 := kN (g := gb115) (cs := #[.string a0_0, .int .i64 a0_1]) hb bk; have BK116 := Aside0.mk hbox; replace HB := bN bz hb; clear hb hbox hg) | ((with_reducible refine gate_dst (N := 4) rfl ?_); refine box_event rfl (N := 4) rfl (cs := #[.string (⟨#[]⟩ : ByteArray), .int .i64 0]) (t := 42) gz ?_; intro gb117 hg w6 hbox hb; have GE117 := gN bz hg; have NB115_117 := lN (g := gb115) (cs := #[.string a0_0, .int .i64 a0_1]) hg bk; have NB117_115 := rN (g := gb115) (cs := #[.string a0_0, .int .i64 a0_1]) hg bk; have NB116_117 := lN (g := gb116) (cs := #[.string a1_0, .int .i64 a1_1]) hg bk; have NB117_116 := rN (g := gb116) (cs := #[.string a1_0, .int .i64 a1_1]) hg bk; replace BK115 := kN (g := gb115) (cs := #[.string a0_0, .int .i64 a0_1]) hb bk; replace BK116 := kN (g := gb116) (cs := #[.string a1_0, .int .i64 a1_1]) hb bk; have BK117 := Aside0.mk hbox; replace HB := bN bz hb; clear hb hbox hg) | ((with_reducible refine gate_dst (N := 5) rfl ?_); refine box_event rfl (N := 5) rfl (cs := #[.string (⟨#[]⟩ : ByteArray), .int .i64 0]) (t := 42) gz ?_; intro gb118 hg w7 hbox hb; have GE118 := gN bz hg; have NB115_118 := lN (g := gb115) (cs := #[.string a0_0, .int .i64 a0_1]) hg bk; have NB118_115 := rN (g := gb115) (cs := #[.string a0_0, .int .i64 a0_1]) hg bk; have NB116_118 := lN (g := gb116) (cs := #[.string a1_0, .int .i64 a1_1]) hg bk; have NB118_116 := rN (g := gb116) (cs := #[.string a1_0, .int .i64 a1_1]) hg bk; have NB117_118 := lN (g := gb117) (cs := #[.string (⟨#[]⟩ : ByteArray), .int .i64 0]) hg bk; have NB118_117 := rN (g := gb117) (cs := #[.string (⟨#[]⟩ : ByteArray), .int .i64 0]) hg bk; replace BK115 := kN (g := gb115) (cs := #[.string a0_0, .int .i64 a0_1]) hb bk; replace BK116 := kN (g := gb116) (cs := #[.string a1_0, .int .i64 a1_1]) hb bk; replace BK117 := kN (g := gb117) (cs := #[.string (⟨#[]⟩ : ByteArray), .int .i64 0]) hb bk; have BK118 := Aside0.mk hbox; replace HB := bN bz hb; clear hb hbox hg; have hnb8 := NB115_116.out; have hnc8 := NB116_115.out; have hnb9 := NB115_117.out; have hnc9 := NB117_115.out; have hnb10 := NB115_118.out; have hnc10 := NB118_115.out; obtain ⟨hcz11_0, hcz11_1, hfz11_0, hfz11_1⟩ := cz2 (W := w7) BK115) | ((with_reducible refine gate_callee (f := 50) rfl ?_); refine goesL_ (some 10) rfl rfl Tryz.func50 (by kernel_rfl) rfl #[.agg #[.string a0_0, .int .i64 a0_1]] rfl lz ?_; (with_reducible refine (bigdec_Norm.calls k a0_0 a0_1 t119 t120 t121 _ A3.out).mono ?_); rintro e w12 ⟨rfl, hb⟩; refine ⟨_, rfl, ?_⟩; replace BK115 := kN (g := gb115) (cs := #[.string a0_0, .int .i64 a0_1]) hb bk; replace BK116 := kN (g := gb116) (cs := #[.string a1_0, .int .i64 a1_1]) hb bk; replace BK117 := kN (g := gb117) (cs := #[.string (⟨#[]⟩ : ByteArray), .int .i64 0]) hb bk; replace BK118 := kN (g := gb118) (cs := #[.string (⟨#[]⟩ : ByteArray), .int .i64 0]) hb bk; replace HB := bN bz hb; (try clear hb); (try clear hb2); (try clear hk); (try clear hi); obtain ⟨hcz13_0, hcz13_1, hfz13_0, hfz13_1⟩ := cz2 (W := w12) BK115))
 (try simp only [Act.put, List.setIfInBounds_toArray, List.set_cons_zero, List.set_cons_succ])
 by_cases c14 : t121 = 0
 ·replace H := hE H c14
  obtain ⟨c14b0, c14b1⟩ := eT c14
  clear c14
  try first | rw [c14b0] | rw [c14b1]
  replace H := bs H
  obtain ⟨⟨t122, t123, t124⟩, A15, H⟩ := H
  dsimp only at H
  simp only [Option.some.injEq, Prod.mk.injEq] at H
  obtain ⟨rfl, rfl, rfl, rfl, rfl⟩ := H
  have hnb16 := NB116_115.out
  have hnc16 := NB115_116.out
  have hnb17 := NB116_117.out
  have hnc17 := NB117_116.out
  have hnb18 := NB116_118.out
  have hnc18 := NB118_116.out
  obtain ⟨hcz19_0, hcz19_1, hfz19_0, hfz19_1⟩ := cz2 (W := w12) BK116
  try go_wp2_with (first | ((with_reducible refine gate_callee (f := 50) rfl ?_); refine goesL_ (some 20) rfl rfl Tryz.func50 (by kernel_rfl) rfl #[.agg #[.string a1_0, .int .i64 a1_1]] rfl lz ?_; (with_reducible refine (bigdec_Norm.calls k a1_0 a1_1 t122 t123 t124 _ A15.out).mono ?_); rintro e w20 ⟨rfl, hb⟩; refine ⟨_, rfl, ?_⟩; replace BK115 := kN (g := gb115) (cs := #[.string t119, .int .i64 t120]) hb bk; replace BK116 := kN (g := gb116) (cs := #[.string a1_0, .int .i64 a1_1]) hb bk; replace BK117 := kN (g := gb117) (cs := #[.string (⟨#[]⟩ : ByteArray), .int .i64 0]) hb bk; replace BK118 := kN (g := gb118) (cs := #[.string (⟨#[]⟩ : ByteArray), .int .i64 0]) hb bk; replace HB := bN bz hb; (try clear hb); (try clear hb2); (try clear hk); (try clear hi); obtain ⟨hcz21_0, hcz21_1, hfz21_0, hfz21_1⟩ := cz2 (W := w20) BK116))
  have n0_ : Aside0 (((w20.setCell ⟨gb116, 0, none⟩ (.string t122)).setCell ⟨gb116, 1, none⟩ (.int .i64 t123)).heap[gb115]? = some (.cells #[.string t119, .int .i64 t120] 42 (0, 0))) := ⟨bk⟩
  have n1_ : Aside0 (((w20.setCell ⟨gb116, 0, none⟩ (.string t122)).setCell ⟨gb116, 1, none⟩ (.int .i64 t123)).heap[gb116]? = some (.cells #[.string t122, .int .i64 t123] 42 (0, 0))) := ⟨bk⟩
  have n2_ : Aside0 (((w20.setCell ⟨gb116, 0, none⟩ (.string t122)).setCell ⟨gb116, 1, none⟩ (.int .i64 t123)).heap[gb117]? = some (.cells #[.string (⟨#[]⟩ : ByteArray), .int .i64 0] 42 (0, 0))) := ⟨bk⟩
  have n3_ : Aside0 (((w20.setCell ⟨gb116, 0, none⟩ (.string t122)).setCell ⟨gb116, 1, none⟩ (.int .i64 t123)).heap[gb118]? = some (.cells #[.string (⟨#[]⟩ : ByteArray), .int .i64 0] 42 (0, 0))) := ⟨bk⟩
  have n4_ : Aside0 (Below w.heap.size w ((w20.setCell ⟨gb116, 0, none⟩ (.string t122)).setCell ⟨gb116, 1, none⟩ (.int .i64 t123))) := ⟨bz⟩
  (try clear BK115)
  (try clear BK116)
  (try clear BK117)
  (try clear BK118)
  (try clear HB)
  generalize ((w20.setCell ⟨gb116, 0, none⟩ (.string t122)).setCell ⟨gb116, 1, none⟩ (.int .i64 t123)) = w22 at n0_ n1_ n2_ n3_ n4_ ⊢
  have BK115 := n0_
  have BK116 := n1_
  have BK117 := n2_
  have BK118 := n3_
  have HB := n4_
  clear n0_ n1_ n2_ n3_ n4_
  replace BK115 := Aside0.mk (blk_drew BK115.out)
  replace BK116 := Aside0.mk (blk_drew BK116.out)
  replace BK117 := Aside0.mk (blk_drew BK117.out)
  replace BK118 := Aside0.mk (blk_drew BK118.out)
  replace HB := Aside0.mk (below_drew1 HB.out)
  refine start_ (n := 6) (S := fun w' => w'.cell? ⟨gb115, 0, none⟩ = some (.string t119) ∧ w'.cell? ⟨gb115, 1, none⟩ = some (.int .i64 t120) ∧ w'.cell? ⟨gb116, 0, none⟩ = some (.string t122) ∧ w'.cell? ⟨gb116, 1, none⟩ = some (.int .i64 t123)) (ds := []) #[false, false, false, false, false, false] (by kernel_rfl) rfl rfl ⟨(blk_cell BK115.out 0).trans rfl, (blk_cell BK115.out 1).trans rfl, (blk_cell BK116.out 0).trans rfl, (blk_cell BK116.out 1).trans rfl⟩ (fun hHeld => ?_)
  generalize w22.drew = w23 at BK115 BK116 BK117 BK118 HB hHeld ⊢
  refine pure_ (i := 2) (N := some 25) (v := ?_) (a' := ?_) #[false, false, true, false, false, false] rfl rfl (by kernel_rfl) (fun _ _ _ h => h) (Or.inl ⟨by rfl, ?_⟩) ?_ ?_
  rotate_left
  ·intro w'
   go_simp
   with_reducible rfl
  rotate_left
  ·simp only [Act.put, List.setIfInBounds_toArray, List.set_cons_zero, List.set_cons_succ, i64_w, i32_w]
   rfl
  refine take_ (i := 0) (N := some 23) (v := ?_) (a' := ?_) #[true, false, true, false, false, false] rfl rfl (by kernel_rfl) (fun _ _ _ h => h) (Or.inl ⟨by rfl, ?_⟩) hHeld ?_ ?_
  rotate_left
  ·rintro w' ⟨s0, s1, s2, s3⟩
   go_simp
   with_reducible rfl
  rotate_left
  ·simp only [Act.put, List.setIfInBounds_toArray, List.set_cons_zero, List.set_cons_succ, i64_w, i32_w]
   rfl
  refine take_ (i := 1) (N := some 24) (v := ?_) (a' := ?_) #[true, true, true, false, false, false] rfl rfl (by kernel_rfl) (fun _ _ _ h => h) (Or.inl ⟨by rfl, ?_⟩) hHeld ?_ ?_
  rotate_left
  ·rintro w' ⟨s0, s1, s2, s3⟩
   go_simp
   with_reducible rfl
  rotate_left
  ·simp only [Act.put, List.setIfInBounds_toArray, List.set_cons_zero, List.set_cons_succ, i64_w, i32_w]
   rfl
  refine one_ (i := 3) (N := none) #[true, true, true, true, false, false] rfl rfl (by kernel_rfl) (by decide) (fun K hK => ?_)
  have hs24 : w23.cell? ⟨gb117, 0, none⟩ = some (.string (⟨#[]⟩ : ByteArray)) := (blk_cell BK117.out 0).trans rfl
  have hfs24 := blk_frozen BK117.out 0
  have hns24_0 := NB115_117.out
  have hns24_1 := NB116_117.out
  have hns24_3 := NB118_117.out
  have hms24_0 := NB117_115.out
  have hms24_1 := NB117_116.out
  have hms24_3 := NB117_118.out
  have hs25 : w23.cell? ⟨gb117, 1, none⟩ = some (.int .i64 0) := (blk_cell BK117.out 1).trans rfl
  have hfs25 := blk_frozen BK117.out 1
  have hns25_0 := NB115_117.out
  have hns25_1 := NB116_117.out
  have hns25_3 := NB118_117.out
  have hms25_0 := NB117_115.out
  have hms25_1 := NB117_116.out
  have hms25_3 := NB117_118.out
  refine skip_ (w1 := ?_) (by rfl) rfl ?_ ?_
  rotate_left
  ·go_simp
   rfl
  refine hK.out _ _ ⟨((cell_far (p := ⟨gb117, _, none⟩) NB115_117.out _).trans (((cell_far (p := ⟨gb117, _, none⟩) NB115_117.out _).trans (hHeld.1)))), ((cell_far (p := ⟨gb117, _, none⟩) NB115_117.out _).trans (((cell_far (p := ⟨gb117, _, none⟩) NB115_117.out _).trans (hHeld.2.1)))), ((cell_far (p := ⟨gb117, _, none⟩) NB116_117.out _).trans (((cell_far (p := ⟨gb117, _, none⟩) NB116_117.out _).trans (hHeld.2.2.1)))), ((cell_far (p := ⟨gb117, _, none⟩) NB116_117.out _).trans (((cell_far (p := ⟨gb117, _, none⟩) NB116_117.out _).trans (hHeld.2.2.2))))⟩ (fun hHeld => ?_)
  clear hK K
  refine one_ (i := 4) (N := none) #[true, true, true, true, true, false] rfl rfl (by kernel_rfl) (by decide) (fun K hK => ?_)
  have hs26 : w23.cell? ⟨gb118, 0, none⟩ = some (.string (⟨#[]⟩ : ByteArray)) := (blk_cell BK118.out 0).trans rfl
  have hfs26 := blk_frozen BK118.out 0
  have hns26_0 := NB115_118.out
  have hns26_1 := NB116_118.out
  have hns26_2 := NB117_118.out
  have hms26_0 := NB118_115.out
  have hms26_1 := NB118_116.out
  have hms26_2 := NB118_117.out
  have hs27 : w23.cell? ⟨gb118, 1, none⟩ = some (.int .i64 0) := (blk_cell BK118.out 1).trans rfl
  have hfs27 := blk_frozen BK118.out 1
  have hns27_0 := NB115_118.out
  have hns27_1 := NB116_118.out
  have hns27_2 := NB117_118.out
  have hms27_0 := NB118_115.out
  have hms27_1 := NB118_116.out
  have hms27_2 := NB118_117.out
  refine skip_ (w1 := ?_) (by rfl) rfl ?_ ?_
  rotate_left
  ·go_simp
   rfl
  refine hK.out _ _ ⟨((cell_far (p := ⟨gb118, _, none⟩) NB115_118.out _).trans (((cell_far (p := ⟨gb118, _, none⟩) NB115_118.out _).trans (hHeld.1)))), ((cell_far (p := ⟨gb118, _, none⟩) NB115_118.out _).trans (((cell_far (p := ⟨gb118, _, none⟩) NB115_118.out _).trans (hHeld.2.1)))), ((cell_far (p := ⟨gb118, _, none⟩) NB116_118.out _).trans (((cell_far (p := ⟨gb118, _, none⟩) NB116_118.out _).trans (hHeld.2.2.1)))), ((cell_far (p := ⟨gb118, _, none⟩) NB116_118.out _).trans (((cell_far (p := ⟨gb118, _, none⟩) NB116_118.out _).trans (hHeld.2.2.2))))⟩ (fun hHeld => ?_)
  clear hK K
  refine pure_ (i := 5) (N := some 6) (v := ?_) (a' := ?_) #[true, true, true, true, true, true] rfl rfl (by kernel_rfl) (fun _ _ _ h => h) (Or.inl ⟨by rfl, ?_⟩) ?_ ?_
  rotate_left
  ·intro w'
   go_simp
   with_reducible rfl
  rotate_left
  ·simp only [Act.put, List.setIfInBounds_toArray, List.set_cons_zero, List.set_cons_succ, i64_w, i32_w]
   rfl
  refine done_ (by kernel_rfl) ?_
  try go_wp2
  refine bodyPost_ret (results_list (rs := [.cell 4 42, .cell 5 42, .tmp 6]) rfl (by simp) (.cell gb117 42 #[.string t119, .int .i64 t120] (0, 0) _ rfl bk Tryz.underlying42 rfl (by kernel_rfl) (.cell gb118 42 #[.string t122, .int .i64 t123] (0, 0) _ rfl bk Tryz.underlying42 rfl (by kernel_rfl) (.tmp .nil)))) rfl ?_
  exact ⟨ez, bz⟩
 ·replace H := hN H c14
  obtain ⟨c14b0, c14b1⟩ := eF c14
  try first | rw [c14b0] | rw [c14b1]
  simp only [Option.some.injEq, Prod.mk.injEq] at H
  obtain ⟨rfl, rfl, rfl, rfl, rfl⟩ := H
  try go_wp2
  have n0_ : Aside0 (((w12.setCell ⟨gb115, 0, none⟩ (.string t119)).setCell ⟨gb115, 1, none⟩ (.int .i64 t120)).heap[gb115]? = some (.cells #[.string t119, .int .i64 t120] 42 (0, 0))) := ⟨bk⟩
  have n1_ : Aside0 (((w12.setCell ⟨gb115, 0, none⟩ (.string t119)).setCell ⟨gb115, 1, none⟩ (.int .i64 t120)).heap[gb116]? = some (.cells #[.string a1_0, .int .i64 a1_1] 42 (0, 0))) := ⟨bk⟩
  have n2_ : Aside0 (((w12.setCell ⟨gb115, 0, none⟩ (.string t119)).setCell ⟨gb115, 1, none⟩ (.int .i64 t120)).heap[gb117]? = some (.cells #[.string (⟨#[]⟩ : ByteArray), .int .i64 0] 42 (0, 0))) := ⟨bk⟩
  have n3_ : Aside0 (((w12.setCell ⟨gb115, 0, none⟩ (.string t119)).setCell ⟨gb115, 1, none⟩ (.int .i64 t120)).heap[gb118]? = some (.cells #[.string (⟨#[]⟩ : ByteArray), .int .i64 0] 42 (0, 0))) := ⟨bk⟩
  have n4_ : Aside0 (Below w.heap.size w ((w12.setCell ⟨gb115, 0, none⟩ (.string t119)).setCell ⟨gb115, 1, none⟩ (.int .i64 t120))) := ⟨bz⟩
  (try clear BK115)
  (try clear BK116)
  (try clear BK117)
  (try clear BK118)
  (try clear HB)
  generalize ((w12.setCell ⟨gb115, 0, none⟩ (.string t119)).setCell ⟨gb115, 1, none⟩ (.int .i64 t120)) = w28 at n0_ n1_ n2_ n3_ n4_ ⊢
  have BK115 := n0_
  have BK116 := n1_
  have BK117 := n2_
  have BK118 := n3_
  have HB := n4_
  clear n0_ n1_ n2_ n3_ n4_
  replace BK115 := Aside0.mk (blk_drew BK115.out)
  replace BK116 := Aside0.mk (blk_drew BK116.out)
  replace BK117 := Aside0.mk (blk_drew BK117.out)
  replace BK118 := Aside0.mk (blk_drew BK118.out)
  replace HB := Aside0.mk (below_drew1 HB.out)
  refine start_ (n := 6) (S := fun w' => w'.cell? ⟨gb115, 0, none⟩ = some (.string t119) ∧ w'.cell? ⟨gb115, 1, none⟩ = some (.int .i64 t120) ∧ w'.cell? ⟨gb116, 0, none⟩ = some (.string a1_0) ∧ w'.cell? ⟨gb116, 1, none⟩ = some (.int .i64 a1_1)) (ds := []) #[false, false, false, false, false, false] (by kernel_rfl) rfl rfl ⟨(blk_cell BK115.out 0).trans rfl, (blk_cell BK115.out 1).trans rfl, (blk_cell BK116.out 0).trans rfl, (blk_cell BK116.out 1).trans rfl⟩ (fun hHeld => ?_)
  generalize w28.drew = w29 at BK115 BK116 BK117 BK118 HB hHeld ⊢
  refine pure_ (i := 2) (N := some 17) (v := ?_) (a' := ?_) #[false, false, true, false, false, false] rfl rfl (by kernel_rfl) (fun _ _ _ h => h) (Or.inl ⟨by rfl, ?_⟩) ?_ ?_
  rotate_left
  ·intro w'
   go_simp
   with_reducible rfl
  rotate_left
  ·simp only [Act.put, List.setIfInBounds_toArray, List.set_cons_zero, List.set_cons_succ, i64_w, i32_w]
   rfl
  refine take_ (i := 0) (N := some 15) (v := ?_) (a' := ?_) #[true, false, true, false, false, false] rfl rfl (by kernel_rfl) (fun _ _ _ h => h) (Or.inl ⟨by rfl, ?_⟩) hHeld ?_ ?_
  rotate_left
  ·rintro w' ⟨s0, s1, s2, s3⟩
   go_simp
   with_reducible rfl
  rotate_left
  ·simp only [Act.put, List.setIfInBounds_toArray, List.set_cons_zero, List.set_cons_succ, i64_w, i32_w]
   rfl
  refine take_ (i := 1) (N := some 16) (v := ?_) (a' := ?_) #[true, true, true, false, false, false] rfl rfl (by kernel_rfl) (fun _ _ _ h => h) (Or.inl ⟨by rfl, ?_⟩) hHeld ?_ ?_
  rotate_left
  ·rintro w' ⟨s0, s1, s2, s3⟩
   go_simp
   with_reducible rfl
  rotate_left
  ·simp only [Act.put, List.setIfInBounds_toArray, List.set_cons_zero, List.set_cons_succ, i64_w, i32_w]
   rfl
  refine one_ (i := 3) (N := none) #[true, true, true, true, false, false] rfl rfl (by kernel_rfl) (by decide) (fun K hK => ?_)
  have hs30 : w29.cell? ⟨gb117, 0, none⟩ = some (.string (⟨#[]⟩ : ByteArray)) := (blk_cell BK117.out 0).trans rfl
  have hfs30 := blk_frozen BK117.out 0
  have hns30_0 := NB115_117.out
  have hns30_1 := NB116_117.out
  have hns30_3 := NB118_117.out
  have hms30_0 := NB117_115.out
  have hms30_1 := NB117_116.out
  have hms30_3 := NB117_118.out
  have hs31 : w29.cell? ⟨gb117, 1, none⟩ = some (.int .i64 0) := (blk_cell BK117.out 1).trans rfl
  have hfs31 := blk_frozen BK117.out 1
  have hns31_0 := NB115_117.out
  have hns31_1 := NB116_117.out
  have hns31_3 := NB118_117.out
  have hms31_0 := NB117_115.out
  have hms31_1 := NB117_116.out
  have hms31_3 := NB117_118.out
  refine skip_ (w1 := ?_) (by rfl) rfl ?_ ?_
  rotate_left
  ·go_simp
   rfl
  refine hK.out _ _ ⟨((cell_far (p := ⟨gb117, _, none⟩) NB115_117.out _).trans (((cell_far (p := ⟨gb117, _, none⟩) NB115_117.out _).trans (hHeld.1)))), ((cell_far (p := ⟨gb117, _, none⟩) NB115_117.out _).trans (((cell_far (p := ⟨gb117, _, none⟩) NB115_117.out _).trans (hHeld.2.1)))), ((cell_far (p := ⟨gb117, _, none⟩) NB116_117.out _).trans (((cell_far (p := ⟨gb117, _, none⟩) NB116_117.out _).trans (hHeld.2.2.1)))), ((cell_far (p := ⟨gb117, _, none⟩) NB116_117.out _).trans (((cell_far (p := ⟨gb117, _, none⟩) NB116_117.out _).trans (hHeld.2.2.2))))⟩ (fun hHeld => ?_)
  clear hK K
  refine one_ (i := 4) (N := none) #[true, true, true, true, true, false] rfl rfl (by kernel_rfl) (by decide) (fun K hK => ?_)
  have hs32 : w29.cell? ⟨gb118, 0, none⟩ = some (.string (⟨#[]⟩ : ByteArray)) := (blk_cell BK118.out 0).trans rfl
  have hfs32 := blk_frozen BK118.out 0
  have hns32_0 := NB115_118.out
  have hns32_1 := NB116_118.out
  have hns32_2 := NB117_118.out
  have hms32_0 := NB118_115.out
  have hms32_1 := NB118_116.out
  have hms32_2 := NB118_117.out
  have hs33 : w29.cell? ⟨gb118, 1, none⟩ = some (.int .i64 0) := (blk_cell BK118.out 1).trans rfl
  have hfs33 := blk_frozen BK118.out 1
  have hns33_0 := NB115_118.out
  have hns33_1 := NB116_118.out
  have hns33_2 := NB117_118.out
  have hms33_0 := NB118_115.out
  have hms33_1 := NB118_116.out
  have hms33_2 := NB118_117.out
  refine skip_ (w1 := ?_) (by rfl) rfl ?_ ?_
  rotate_left
  ·go_simp
   rfl
  refine hK.out _ _ ⟨((cell_far (p := ⟨gb118, _, none⟩) NB115_118.out _).trans (((cell_far (p := ⟨gb118, _, none⟩) NB115_118.out _).trans (hHeld.1)))), ((cell_far (p := ⟨gb118, _, none⟩) NB115_118.out _).trans (((cell_far (p := ⟨gb118, _, none⟩) NB115_118.out _).trans (hHeld.2.1)))), ((cell_far (p := ⟨gb118, _, none⟩) NB116_118.out _).trans (((cell_far (p := ⟨gb118, _, none⟩) NB116_118.out _).trans (hHeld.2.2.1)))), ((cell_far (p := ⟨gb118, _, none⟩) NB116_118.out _).trans (((cell_far (p := ⟨gb118, _, none⟩) NB116_118.out _).trans (hHeld.2.2.2))))⟩ (fun hHeld => ?_)
  clear hK K
  refine pure_ (i := 5) (N := some 6) (v := ?_) (a' := ?_) #[true, true, true, true, true, true] rfl rfl (by kernel_rfl) (fun _ _ _ h => h) (Or.inl ⟨by rfl, ?_⟩) ?_ ?_
  rotate_left
  ·intro w'
   go_simp
   with_reducible rfl
  rotate_left
  ·simp only [Act.put, List.setIfInBounds_toArray, List.set_cons_zero, List.set_cons_succ, i64_w, i32_w]
   rfl
  refine done_ (by kernel_rfl) ?_
  try go_wp2
  refine bodyPost_ret (results_list (rs := [.cell 4 42, .cell 5 42, .tmp 6]) rfl (by simp) (.cell gb117 42 #[.string t119, .int .i64 t120] (0, 0) _ rfl bk Tryz.underlying42 rfl (by kernel_rfl) (.cell gb118 42 #[.string a1_0, .int .i64 a1_1] (0, 0) _ rfl bk Tryz.underlying42 rfl (by kernel_rfl) (.tmp .nil)))) rfl ?_
  exact ⟨ez, bz⟩
end Go.Proofs.YtecpgdfnamkfdaaGreatDoor.Fn
end
section
namespace Go.Proofs.YtecpgdfnamkfdaaGreatDoor.Fn
open Go.RowKit Go.Proofs.YtecpgdfnamkfdaaGreatDoorW.PrintWords Go.Proofs.YtecpgdfnamkfdaaGreatDoorW.PrintLast Go.Proofs.YtecpgdfnamkfdaaGreatDoorW.PrintMore
attribute [local go_sem] fnW_0 fnW_1 fnW_2 fnW_3 fnW_4 fnW_5 fnW_guard fnW_eql max2_int min2_int max_two min_two
set_option linter.unusedVariables false
set_option linter.unusedSimpArgs false
def platenref04_digit.f (a0_0 : ByteArray) (a0_1 : Int) (a1 : Int) : Option (Int) := if (wrap64 ((wrap64 (a0_1 - 1)) - a1)) < 0 then (some 0) else (if (wrap64 ((wrap64 (a0_1 - 1)) - a1)) ≥ (a0_0.size : Int) then (some 0) else (if 0 ≤ (wrap64 ((wrap64 (a0_1 - 1)) - a1)) then (if (wrap64 ((wrap64 (a0_1 - 1)) - a1)) < (a0_0.size : Int) then (some (((bt a0_0 (wrap64 ((wrap64 (a0_1 - 1)) - a1))) - 48) % 256)) else (none)) else (none)))
end Go.Proofs.YtecpgdfnamkfdaaGreatDoor.Fn
end
section
namespace Go.Proofs.YtecpgdfnamkfdaaGreatDoor.Fn
open Go.RowKit Go.Proofs.YtecpgdfnamkfdaaGreatDoorW.PrintWords Go.Proofs.YtecpgdfnamkfdaaGreatDoorW.PrintLast Go.Proofs.YtecpgdfnamkfdaaGreatDoorW.PrintMore
attribute [local go_sem] fnW_0 fnW_1 fnW_2 fnW_3 fnW_4 fnW_5 fnW_guard fnW_eql max2_int min2_int max_two min_two
set_option linter.unusedVariables false
set_option linter.unusedSimpArgs false
def bigdec_Cmp.f (k : Nat) (a0_0 : ByteArray) (a0_1 : Int) (a1_0 : ByteArray) (a1_1 : Int) : Option (Int × Int) := (bigdec_two.f k a0_0 a0_1 a1_0 a1_1).bind fun bt131 => (if bt131.2.2.2.2 = 0 then ((bigdec_cmp.f k bt131.1 bt131.2.1 bt131.2.2.1 bt131.2.2.2.1).bind fun t136 => (some (t136, 0))) else (some (0, bt131.2.2.2.2)))
set_option maxHeartbeats 8000000 in
set_option maxRecDepth 100000 in
theorem bigdec_Cmp.calls (k : Nat) (a0_0 : ByteArray) (a0_1 : Int) (a1_0 : ByteArray) (a1_1 : Int) (r1 : Int) (r2 : Int) (w : World) (h : bigdec_Cmp.f k a0_0 a0_1 a1_0 a1_1 = some (r1, r2)) :
  Calls Tryz.prog 82 #[.agg #[.string a0_0, .int .i64 a0_1], .agg #[.string a1_0, .int .i64 a1_1]] w fun e w' => e = .returned (.tuple #[.int .i64 r1, .int .i64 r2]) ∧ Below w.heap.size w w' := by
 have hu42 := Tryz.underlying42
 have HB := Aside0.mk (Below.refl w.heap.size w)
 have H : ((bigdec_two.f k a0_0 a0_1 a1_0 a1_1).bind fun bt131 => (if bt131.2.2.2.2 = 0 then ((bigdec_cmp.f k bt131.1 bt131.2.1 bt131.2.2.1 bt131.2.2.2.1).bind fun t136 => (some (t136, 0))) else (some (0, bt131.2.2.2.2)))) = some (r1, r2) := h
 clear h
 replace H := bs H
 obtain ⟨⟨t131, t132, t133, t134, t135⟩, A3, H⟩ := H
 dsimp only at H
 go_enter Tryz.func82, Tryz.ntmps82
 go_upto_if 15 with (first | ((with_reducible refine gate_dst (N := 2) rfl ?_); refine box_event rfl (N := 2) rfl (cs := #[.string a0_0, .int .i64 a0_1]) (t := 42) gz ?_; intro gb129 hg w4 hbox hb; have GE129 := gN bz hg; have BK129 := Aside0.mk hbox; replace HB := bN bz hb; clear hb hbox hg) | ((with_reducible refine gate_dst (N := 3) rfl ?_); refine box_event rfl (N := 3) rfl (cs := #[.string a1_0, .int .i64 a1_1]) (t := 42) gz ?_; intro gb130 hg w5 hbox hb; have GE130 := gN bz hg; have NB129_130 := lN (g := gb129) (cs := #[.string a0_0, .int .i64 a0_1]) hg bk; have NB130_129 := rN (g := gb129) (cs := #[.string a0_0, .int .i64 a0_1]) hg bk; replace BK129 := kN (g := gb129) (cs := #[.string a0_0, .int .i64 a0_1]) hb bk; have BK130 := Aside0.mk hbox; replace HB := bN bz hb; clear hb hbox hg; have hnb6 := NB129_130.out; have hnc6 := NB130_129.out; obtain ⟨hcz7_0, hcz7_1, hfz7_0, hfz7_1⟩ := cz2 (W := w5) BK129; obtain ⟨hcz8_0, hcz8_1, hfz8_0, hfz8_1⟩ := cz2 (W := w5) BK130) | ((with_reducible refine gate_callee (f := 127) rfl ?_); refine goesL_ (some 10) rfl rfl Tryz.func127 (by kernel_rfl) rfl #[.agg #[.string a0_0, .int .i64 a0_1], .agg #[.string a1_0, .int .i64 a1_1]] rfl lz ?_; (with_reducible refine (bigdec_two.calls k a0_0 a0_1 a1_0 a1_1 t131 t132 t133 t134 t135 _ A3.out).mono ?_); rintro e w9 ⟨rfl, hb⟩; refine ⟨_, rfl, ?_⟩; replace BK129 := kN (g := gb129) (cs := #[.string a0_0, .int .i64 a0_1]) hb bk; replace BK130 := kN (g := gb130) (cs := #[.string a1_0, .int .i64 a1_1]) hb bk; replace HB := bN bz hb; (try clear hb); (try clear hb2); (try clear hk); (try clear hi); obtain ⟨hcz10_0, hcz10_1, hfz10_0, hfz10_1⟩ := cz2 (W := w9) BK129; obtain ⟨hcz11_0, hcz11_1, hfz11_0, hfz11_1⟩ := cz2 (W := w9) BK130))
 (try simp only [Act.put, List.setIfInBounds_toArray, List.set_cons_zero, List.set_cons_succ])
 by_cases c12 : t135 = 0
 ·replace H := hE H c12
  obtain ⟨c12b0, c12b1⟩ := eT c12
  clear c12
  try first | rw [c12b0] | rw [c12b1]
  replace H := bs H
  obtain ⟨t136, A13, H⟩ := H
  simp only [Option.some.injEq, Prod.mk.injEq] at H
  obtain ⟨rfl, rfl⟩ := H
  have hnb14 := NB129_130.out
  have hnc14 := NB130_129.out
  obtain ⟨hcz15_0, hcz15_1, hfz15_0, hfz15_1⟩ := cz2 (W := w9) BK129
  obtain ⟨hcz16_0, hcz16_1, hfz16_0, hfz16_1⟩ := cz2 (W := w9) BK130
  go_wp2_with (first | ((with_reducible refine gate_callee (f := 128) rfl ?_); refine goesL_ (some 19) rfl rfl Tryz.func128 (by kernel_rfl) rfl #[.agg #[.string t131, .int .i64 t132], .agg #[.string t133, .int .i64 t134]] rfl lz ?_; (with_reducible refine (bigdec_cmp.calls k t131 t132 t133 t134 t136 _ A13.out).mono ?_); rintro e w17 ⟨rfl, hb⟩; refine ⟨_, rfl, ?_⟩; replace BK129 := kN (g := gb129) (cs := #[.string t131, .int .i64 t132]) hb bk; replace BK130 := kN (g := gb130) (cs := #[.string t133, .int .i64 t134]) hb bk; replace HB := bN bz hb; (try clear hb); (try clear hb2); (try clear hk); (try clear hi)))
  go_ret2
  exact ⟨ez, bz⟩
 ·replace H := hN H c12
  obtain ⟨c12b0, c12b1⟩ := eF c12
  try first | rw [c12b0] | rw [c12b1]
  simp only [Option.some.injEq, Prod.mk.injEq] at H
  obtain ⟨rfl, rfl⟩ := H
  go_wp2
  go_ret2
  exact ⟨ez, bz⟩
end Go.Proofs.YtecpgdfnamkfdaaGreatDoor.Fn
end
section
namespace Go.Proofs.YtecpgdfnamkfdaaGreatDoor.Pure
open Go.RowKit Go.Proofs.YtecpgdfnamkfdaaGreatDoorW.PrintWords Go.Proofs.YtecpgdfnamkfdaaGreatDoor.Fn
set_option linter.unusedVariables false
set_option linter.unusedSimpArgs false
def sv (l : List UInt8) (p E : Int) : Nat := val l * 10 ^ (p - l.length - E).toNat
def cmpN (a b : Nat) : Int := if a < b then -1 else if b < a then 1 else 0
theorem cmpN_mul (a b k : Nat) (hk : 0 < k) : cmpN (a * k) (b * k) = cmpN a b := by
  unfold cmpN
  by_cases h1 : a < b
  · rw [if_pos h1, if_pos (Nat.mul_lt_mul_of_pos_right h1 hk)]
  · rw [if_neg h1, if_neg (fun h => h1 (Nat.lt_of_mul_lt_mul_right h))]
    by_cases h2 : b < a
    · rw [if_pos h2, if_pos (Nat.mul_lt_mul_of_pos_right h2 hk)]
    · rw [if_neg h2, if_neg (fun h => h2 (Nat.lt_of_mul_lt_mul_right h))]
theorem cmpN_add (x a b : Nat) : cmpN (x + a) (x + b) = cmpN a b := by
  have e1 : x + a < x + b ↔ a < b := by omega
  have e2 : x + b < x + a ↔ b < a := by omega
  unfold cmpN
  simp only [e1, e2]
theorem cmpN_lt {a b : Nat} (h : a < b) : cmpN a b = -1 := if_pos h
theorem cmpN_gt {a b : Nat} (h : b < a) : cmpN a b = 1 := by unfold cmpN; rw [if_neg (by omega), if_pos h]
theorem cmpN_self (a : Nat) : cmpN a a = 0 := by unfold cmpN; rw [if_neg (by omega), if_neg (by omega)]
theorem sv_lower (l : List UInt8) (p E : Int) (h : E ≤ p - l.length) (k : Nat) : sv l p (E - k) = sv l p E * 10 ^ k := by
  unfold sv
  have : (p - l.length - (E - k)).toNat = (p - l.length - E).toNat + k := by omega
  rw [this, Nat.pow_add, Nat.mul_assoc]
theorem decOf_sv {l : List UInt8} {p : Int} (h : InForm l p) {E : Int} (hE : E ≤ p - l.length) : decOf (sv l p E) E = (l, p) := by
  have h1 := decOf_scale (val l) (p - l.length - E).toNat (p - l.length)
  have h2 : (p - (l.length : Int)) - ((p - l.length - E).toNat : Int) = E := by omega
  rw [h2, decOf_val h] at h1
  exact h1
def cmpD (a : List UInt8) (p : Int) (b : List UInt8) (q : Int) : Int := cmpN (sv a p (min (p - a.length) (q - b.length))) (sv b q (min (p - a.length) (q - b.length)))
theorem cmpD_at {a b : List UInt8} {p q E : Int} (h1 : E ≤ p - a.length) (h2 : E ≤ q - b.length) : cmpD a p b q = cmpN (sv a p E) (sv b q E) := by
  unfold cmpD
  obtain ⟨k, hk⟩ : ∃ k : Nat, E = min (p - (a.length : Int)) (q - b.length) - k := ⟨(min (p - (a.length : Int)) (q - b.length) - E).toNat, by omega⟩
  rw [hk, sv_lower a p _ (by omega), sv_lower b q _ (by omega), cmpN_mul _ _ _ (Nat.pow_pos (by omega))]
theorem sv_lt {l : List UInt8} (h : AllD l) {p E : Int} (hE : E ≤ p - l.length) : sv l p E < 10 ^ (p - E).toNat := by
  unfold sv
  have h1 := val_lt h
  have h2 : (p - E).toNat = l.length + (p - l.length - E).toNat := by omega
  rw [h2, Nat.pow_add]
  exact Nat.mul_lt_mul_of_pos_right h1 (Nat.pow_pos (by omega))
theorem val_ge {l : List UInt8} (h : AllD l) (h0 : Head0 l) (hn : l ≠ []) : 10 ^ (l.length - 1) ≤ val l := by
  cases l with
  | nil => exact absurd rfl hn
  | cons c t =>
    rw [val_cons, List.length_cons]
    have h1 := h.cons.1
    have h2 := h0 c t rfl
    have : 1 * 10 ^ t.length ≤ dig c * 10 ^ t.length := Nat.mul_le_mul_right _ (by unfold dig; omega)
    simp only [Nat.add_sub_cancel]
    omega
theorem sv_ge {l : List UInt8} (h : AllD l) (h0 : Head0 l) (hn : l ≠ []) {p E : Int} (hE : E ≤ p - l.length) : 10 ^ (p - 1 - E).toNat ≤ sv l p E := by
  unfold sv
  have h1 := val_ge h h0 hn
  have hl : 0 < l.length := List.length_pos_iff.2 hn
  have h2 : (p - 1 - E).toNat = (l.length - 1) + (p - l.length - E).toNat := by omega
  rw [h2, Nat.pow_add]
  exact Nat.mul_le_mul_right _ h1
theorem last_ne {l : List UInt8} (h : AllD l) (hr : rz l = l) (hn : l ≠ []) : val l ≠ 0 := by
  rcases List.eq_nil_or_concat l with rfl | ⟨t, c, rfl⟩
  · exact absurd rfl hn
  · rw [List.concat_eq_append] at *
    have hc : c.toNat ≠ 48 := by
      intro e
      rw [rz_snoc_eq e] at hr
      have := length_rz t
      rw [hr] at this
      simp at this
      omega
    rw [val_snoc]
    have := h.last
    unfold dig
    omega
theorem rz_tail {c : UInt8} {t : List UInt8} (h : rz (c :: t) = c :: t) : rz t = t := by
  rcases List.eq_nil_or_concat t with rfl | ⟨u, d, rfl⟩
  · rfl
  · rw [List.concat_eq_append] at *
    by_cases e : d.toNat = 48
    · rw [← List.cons_append, rz_snoc_eq e] at h
      have := length_rz (c :: u)
      rw [h] at this
      simp at this
      omega
    · exact rz_snoc_ne e
theorem lex_val : ∀ (a b : List UInt8) (K : Nat), AllD a → AllD b → rz a = a → rz b = b → a.length ≤ K → b.length ≤ K → Lib.compareBytes a b = cmpN (val a * 10 ^ (K - a.length)) (val b * 10 ^ (K - b.length))
  | [], [], K, _, _, _, _, _, _ => by simp [Lib.compareBytes, val_nil, cmpN]
  | [], d :: u, K, _, hb, _, hrb, _, _ => by
    rw [val_nil, Nat.zero_mul, cmpN_lt (Nat.mul_pos (Nat.pos_of_ne_zero (last_ne hb hrb (by simp))) (Nat.pow_pos (by omega)))]
    rfl
  | c :: t, [], K, ha, _, hra, _, _, _ => by
    rw [val_nil, Nat.zero_mul, cmpN_gt (Nat.mul_pos (Nat.pos_of_ne_zero (last_ne ha hra (by simp))) (Nat.pow_pos (by omega)))]
    rfl
  | c :: t, d :: u, K, ha, hb, hra, hrb, hka, hkb => by
    simp only [List.length_cons] at hka hkb
    have hc := ha.cons.1
    have hd := hb.cons.1
    have h1 := val_lt ha.cons.2
    have h2 := val_lt hb.cons.2
    have ea : val (c :: t) * 10 ^ (K - (t.length + 1)) = dig c * 10 ^ (K - 1) + val t * 10 ^ (K - 1 - t.length) := by
      rw [val_cons, Nat.add_mul, Nat.mul_assoc, ← Nat.pow_add]
      have e1 : t.length + (K - (t.length + 1)) = K - 1 := by omega
      have e2 : K - (t.length + 1) = K - 1 - t.length := by omega
      rw [e1, e2]
    have eb : val (d :: u) * 10 ^ (K - (u.length + 1)) = dig d * 10 ^ (K - 1) + val u * 10 ^ (K - 1 - u.length) := by
      rw [val_cons, Nat.add_mul, Nat.mul_assoc, ← Nat.pow_add]
      have e1 : u.length + (K - (u.length + 1)) = K - 1 := by omega
      have e2 : K - (u.length + 1) = K - 1 - u.length := by omega
      rw [e1, e2]
    have la : val t * 10 ^ (K - 1 - t.length) < 10 ^ (K - 1) := by
      have : 10 ^ t.length * 10 ^ (K - 1 - t.length) = 10 ^ (K - 1) := by rw [← Nat.pow_add]; congr 1; omega
      rw [← this]
      exact Nat.mul_lt_mul_of_pos_right h1 (Nat.pow_pos (by omega))
    have lb : val u * 10 ^ (K - 1 - u.length) < 10 ^ (K - 1) := by
      have : 10 ^ u.length * 10 ^ (K - 1 - u.length) = 10 ^ (K - 1) := by rw [← Nat.pow_add]; congr 1; omega
      rw [← this]
      exact Nat.mul_lt_mul_of_pos_right h2 (Nat.pow_pos (by omega))
    have less : ∀ x y r s M : Nat, x < y → r < M → x * M + r < y * M + s := by
      intro x y r s M hxy hr
      have : (x + 1) * M ≤ y * M := Nat.mul_le_mul_right _ hxy
      rw [Nat.add_mul] at this
      omega
    rw [List.length_cons, List.length_cons, ea, eb]
    unfold Lib.compareBytes
    have hlt : ∀ x y : UInt8, (48 ≤ x.toNat ∧ x.toNat ≤ 57) → (48 ≤ y.toNat ∧ y.toNat ≤ 57) → (x < y ↔ dig x < dig y) := by
      intro x y hx hy
      rw [UInt8.lt_iff_toNat_lt]
      unfold dig
      omega
    by_cases e1 : c < d
    · rw [if_pos e1, cmpN_lt (less _ _ _ _ _ ((hlt c d hc hd).1 e1) la)]
    · rw [if_neg e1]
      by_cases e2 : d < c
      · rw [if_pos e2, cmpN_gt (less _ _ _ _ _ ((hlt d c hd hc).1 e2) lb)]
      · rw [if_neg e2]
        have e3 : dig c = dig d := by
          have h3 := mt (hlt c d hc hd).2 e1
          have h4 := mt (hlt d c hd hc).2 e2
          omega
        rw [lex_val t u (K - 1) ha.cons.2 hb.cons.2 (rz_tail hra) (rz_tail hrb) (by omega) (by omega), e3, cmpN_add]
theorem cmp_eq {a b : List UInt8} {p q : Int} (ha : InForm a p) (hb : InForm b q) : Ev (fun k => bigdec_cmp.f k (S a) p (S b) q) (cmpD a p b q) := by
  obtain ⟨ha1, ha2, ha3, ha4⟩ := ha
  obtain ⟨hb1, hb2, hb3, hb4⟩ := hb
  have hE1 : min (p - (a.length : Int)) (q - b.length) ≤ p - a.length := by omega
  have hE2 : min (p - (a.length : Int)) (q - b.length) ≤ q - b.length := by omega
  have empt : ∀ (z : Int), (a = [] ∨ b = []) → Lib.compareBytes a b = cmpD a p b q := by
    intro _ h
    unfold cmpD
    by_cases h1 : a = []
    · by_cases h2 : b = []
      · subst h1; subst h2; rw [cmpN]; simp [sv, val_nil, Lib.compareBytes]
      · subst h1
        rw [cmpN_lt]
        · cases b with
          | nil => exact absurd rfl h2
          | cons d u => rfl
        · have h3 : 0 < sv b q (min (p - (([] : List UInt8).length : Int)) (q - b.length)) := Nat.mul_pos (Nat.pos_of_ne_zero (val_pos hb1 hb2 h2)) (Nat.pow_pos (by omega))
          simpa [sv, val_nil] using h3
    · have h2 : b = [] := by rcases h with h | h; exact absurd h h1; exact h
      subst h2
      rw [cmpN_gt]
      · cases a with
        | nil => exact absurd rfl h1
        | cons d u => rfl
      · have h3 : 0 < sv a p (min (p - (a.length : Int)) (q - (([] : List UInt8).length : Int))) := Nat.mul_pos (Nat.pos_of_ne_zero (val_pos ha1 ha2 h1)) (Nat.pow_pos (by omega))
        simpa [sv, val_nil] using h3
  have hcmp : strings_Compare.f (S a) (S b) = some (Lib.compareBytes a b) := rfl
  unfold bigdec_cmp.f
  rw [toList_L, L_S, toList_L, L_S]
  by_cases h1 : a = []
  · refine Ev.congr (f := fun k => bigdec_cmp.j0 k true (S a) p (S b) q) (fun k => by rw [if_pos h1]) (Ev.step (f := fun _ => some (cmpD a p b q)) (fun k => ?_) (Ev.now _))
    simp only [bigdec_cmp.j0]
    rw [if_pos trivial, hcmp, Option.bind_some, empt 0 (.inl h1)]
  · by_cases h2 : b = []
    · refine Ev.congr (f := fun k => bigdec_cmp.j0 k true (S a) p (S b) q) (fun k => by rw [if_neg h1, h2]; rfl) (Ev.step (f := fun _ => some (cmpD a p b q)) (fun k => ?_) (Ev.now _))
      simp only [bigdec_cmp.j0]
      rw [if_pos trivial, hcmp, Option.bind_some, empt 0 (.inr h2)]
    · refine Ev.congr (f := fun k => bigdec_cmp.j0 k false (S a) p (S b) q) (fun k => by rw [if_neg h1]; congr 1; simpa using h2) (Ev.step (f := fun _ => some (cmpD a p b q)) (fun k => ?_) (Ev.now _))
      simp only [bigdec_cmp.j0]
      rw [if_neg (by simp)]
      have hal : 0 < a.length := List.length_pos_iff.2 h1
      have hbl : 0 < b.length := List.length_pos_iff.2 h2
      have la := sv_lt ha1 hE1
      have lb := sv_lt hb1 hE2
      have ga := sv_ge ha1 ha2 h1 hE1
      have gb := sv_ge hb1 hb2 h2 hE2
      generalize hE : min (p - (a.length : Int)) (q - b.length) = E at *
      by_cases h3 : p < q
      · rw [if_pos h3]
        unfold cmpD
        rw [hE, cmpN_lt]
        have : 10 ^ (p - E).toNat ≤ 10 ^ (q - 1 - E).toNat := Nat.pow_le_pow_right (by omega) (by omega)
        omega
      · rw [if_neg h3]
        by_cases h4 : p > q
        · rw [if_pos h4]
          unfold cmpD
          rw [hE, cmpN_gt]
          have : 10 ^ (q - E).toNat ≤ 10 ^ (p - 1 - E).toNat := Nat.pow_le_pow_right (by omega) (by omega)
          omega
        · rw [if_neg h4, hcmp, Option.bind_some]
          have e : p = q := by omega
          subst e
          rw [lex_val a b (p - E).toNat ha1 hb1 ha3 hb3 (by omega) (by omega)]
          unfold cmpD sv
          rw [hE]
          have e1 : (p - E).toNat - a.length = (p - (a.length : Int) - E).toNat := by omega
          have e2 : (p - E).toNat - b.length = (p - (b.length : Int) - E).toNat := by omega
          rw [e1, e2]
theorem normS_cases (s : ByteArray) (p : Int) : (∃ e : Int, normS s p = (⟨#[]⟩, 0, e) ∧ e ≠ 0 ∧ (e = 2 ∨ e = 4)) ∨ ∃ l q, normS s p = (S l, q, 0) ∧ InForm l q ∧ l.length ≤ 2000 ∧ -7000 ≤ q ∧ q ≤ 5000 ∧ AllD (L s) ∧ (l, q) = decOf (val (L s)) (p - (L s).length) := by
  unfold normS
  by_cases h : s.size > 2000
  · rw [if_pos h]; exact .inl ⟨2, rfl, by omega, .inl rfl⟩
  · rw [if_neg h]
    unfold normTail
    by_cases h1 : (L s).all isD = true
    · rw [if_pos h1]
      by_cases h2 : p < -5000
      · rw [if_pos h2]; exact .inl ⟨2, rfl, by omega, .inl rfl⟩
      · rw [if_neg h2]
        by_cases h3 : p > 5000
        · rw [if_pos h3]; exact .inl ⟨2, rfl, by omega, .inl rfl⟩
        · rw [if_neg h3]
          have hall : AllD (L s) := fun c hc => (isD_iff c).1 (List.all_eq_true.1 h1 c hc)
          have hf := formL_eq hall p
          have hin := inForm_decOf (val (L s)) (p - (L s).length)
          rw [← hf] at hin
          have hl := length_dz (L s)
          have hl2 := length_rz (dz (L s))
          rw [← size_L] at hl
          refine .inr ⟨(formL (L s) p).1, (formL (L s) p).2, rfl, hin, ?_, ?_, ?_, hall, by rw [← hf]⟩
          · unfold formL; split
            · simp
            · show (rz (dz (L s))).length ≤ 2000
              omega
          · unfold formL; split
            · show (-7000 : Int) ≤ 0
              omega
            · show (-7000 : Int) ≤ p - _
              rw [← size_L]
              omega
          · unfold formL; split
            · show (0 : Int) ≤ 5000
              omega
            · show p - _ ≤ (5000 : Int)
              rw [← size_L]
              omega
    · rw [if_neg h1]; exact .inl ⟨4, rfl, by omega, .inr rfl⟩
def cmpS (s : ByteArray) (p : Int) (t : ByteArray) (q : Int) : Int × Int :=
  if (normS s p).2.2 = 0 then (if (normS t q).2.2 = 0 then (cmpD (L (normS s p).1) (normS s p).2.1 (L (normS t q).1) (normS t q).2.1, 0) else (0, (normS t q).2.2)) else (0, (normS s p).2.2)
theorem two_eq (s : ByteArray) (p : Int) (t : ByteArray) (q : Int) : Ev (fun k => bigdec_two.f k s p t q) (if (normS s p).2.2 = 0 then ((normS s p).1, (normS s p).2.1, (normS t q).1, (normS t q).2.1, (normS t q).2.2) else ((normS s p).1, (normS s p).2.1, t, q, (normS s p).2.2)) := by
  unfold bigdec_two.f
  refine Ev.bind (norm_eq s p) ?_
  by_cases h : (normS s p).2.2 = 0
  · rw [if_pos h]
    exact Ev.congr (fun k => by rw [if_pos h]) (Ev.bind (f := fun _ bt => some ((normS s p).1, (normS s p).2.1, bt.1, bt.2.1, bt.2.2)) (norm_eq t q) (Ev.now _))
  · rw [if_neg h]
    exact Ev.congr (fun k => by rw [if_neg h]) (Ev.now _)
theorem cmpS_eq (s : ByteArray) (p : Int) (t : ByteArray) (q : Int) : Ev (fun k => bigdec_Cmp.f k s p t q) (cmpS s p t q) := by
  unfold bigdec_Cmp.f cmpS
  refine Ev.bind (two_eq s p t q) ?_
  rcases normS_cases s p with ⟨e, h1, h2, _⟩ | ⟨l, u, h1, hf1, _⟩
  · rw [h1, if_neg h2, if_neg h2]
    exact Ev.congr (fun k => by rw [if_neg h2]) (Ev.now _)
  · rw [h1, if_pos rfl, if_pos rfl]
    rcases normS_cases t q with ⟨e, h3, h4, _⟩ | ⟨m, v, h3, hf2, _⟩
    · rw [h3, if_neg h4]
      exact Ev.congr (fun k => by rw [if_neg h4]) (Ev.now _)
    · rw [h3, if_pos rfl]
      refine Ev.congr (fun k => by rw [if_pos rfl]) (Ev.bind (f := fun _ x => some (x, (0 : Int))) (cmp_eq hf1 hf2) (Ev.now _))
theorem val_digit {l : List UInt8} (h : AllD l) (i : Nat) (hi : i < l.length) : val l / 10 ^ (l.length - 1 - i) % 10 = dig l[i] := by
  have e : l = l.take (i + 1) ++ l.drop (i + 1) := (List.take_append_drop _ _).symm
  have e2 : l.take (i + 1) = l.take i ++ [l[i]] := List.take_succ_eq_append_getElem hi
  have hv : val l = (10 * val (l.take i) + dig l[i]) * 10 ^ (l.length - 1 - i) + val (l.drop (i + 1)) := by
    have hl : (l.drop (i + 1)).length = l.length - 1 - i := by rw [List.length_drop]; omega
    rw [← hl, ← val_snoc, ← e2, ← val_append, ← e]
  have hlt : val (l.drop (i + 1)) < 10 ^ (l.length - 1 - i) := by
    have := val_lt (h.drop (i + 1))
    rw [List.length_drop] at this
    have e3 : l.length - (i + 1) = l.length - 1 - i := by omega
    rw [e3] at this
    exact this
  have hd : dig l[i] < 10 := by have := h l[i] (List.getElem_mem hi); unfold dig; omega
  rw [hv, Nat.mul_comm, Nat.mul_add_div (Nat.pow_pos (by omega)), Nat.div_eq_of_lt hlt]
  omega
theorem digit_eq {l : List UInt8} {p E x : Int} (h : AllD l) (hE : E ≤ p - l.length) (hx : E ≤ x) (hb : l.length ≤ 100000 ∧ -100000 ≤ p ∧ p ≤ 100000 ∧ -100000 ≤ x ∧ x ≤ 100000) :
    platenref04_digit.f (S l) p x = some ((sv l p E / 10 ^ (x - E).toNat % 10 : Nat) : Int) := by
  unfold platenref04_digit.f
  have hw : wrap64 (wrap64 (p - 1) - x) = p - 1 - x := by rw [wrap_id (x := p - 1) (by omega) (by omega), wrap_id (by omega) (by omega)]
  rw [hw, size_S]
  by_cases h1 : p - 1 - x < 0
  · rw [if_pos h1]
    have hlt := sv_lt h hE
    have : 10 ^ (p - E).toNat ≤ 10 ^ (x - E).toNat := Nat.pow_le_pow_right (by omega) (by omega)
    rw [Nat.div_eq_of_lt (by omega)]
    rfl
  · rw [if_neg h1]
    by_cases h2 : p - 1 - x ≥ (l.length : Int)
    · rw [if_pos h2]
      unfold sv
      have e : (p - l.length - E).toNat = (p - l.length - x).toNat + (x - E).toNat := by omega
      rw [e, Nat.pow_add, ← Nat.mul_assoc, Nat.mul_div_cancel _ (Nat.pow_pos (by omega))]
      obtain ⟨j, hj⟩ : ∃ j, (p - l.length - x).toNat = j + 1 := ⟨(p - l.length - x).toNat - 1, by omega⟩
      rw [hj, Nat.pow_succ, ← Nat.mul_assoc, Nat.mul_mod_left]
      rfl
    · obtain ⟨i, hi⟩ : ∃ i : Nat, p - 1 - x = (i : Int) := ⟨(p - 1 - x).toNat, by omega⟩
      have hil : i < l.length := by omega
      rw [if_neg h2, hi, if_pos (by omega), if_pos (by omega), bt_L (S l) i (by rw [size_S]; exact hil)]
      simp only [L_S]
      have hd := h l[i] (List.getElem_mem hil)
      have hv := val_digit h i hil
      have e : sv l p E / 10 ^ (x - E).toNat = val l / 10 ^ (l.length - 1 - i) := by
        unfold sv
        have e1 : (x - E).toNat = (l.length - 1 - i) + (p - l.length - E).toNat := by omega
        rw [e1, Nat.pow_add, Nat.mul_comm (10 ^ (l.length - 1 - i)), ← Nat.div_div_eq_div_mul, Nat.mul_div_cancel _ (Nat.pow_pos (by omega))]
      rw [e, hv]
      unfold dig at *
      congr 1
      omega
theorem cmpD_nil_left {b : List UInt8} {q : Int} (hb : InForm b q) (hn : b ≠ []) (p : Int) : cmpD [] p b q = -1 := by
  unfold cmpD
  have h3 : 0 < sv b q (min (p - (([] : List UInt8).length : Int)) (q - b.length)) := Nat.mul_pos (Nat.pos_of_ne_zero (val_pos hb.1 hb.2.1 hn)) (Nat.pow_pos (by omega))
  rw [cmpN_lt]
  simpa [sv, val_nil] using h3
theorem cmpD_nil_right {a : List UInt8} {p : Int} (ha : InForm a p) (hn : a ≠ []) (q : Int) : cmpD a p [] q = 1 := by
  unfold cmpD
  have h3 : 0 < sv a p (min (p - (a.length : Int)) (q - (([] : List UInt8).length : Int))) := Nat.mul_pos (Nat.pos_of_ne_zero (val_pos ha.1 ha.2.1 hn)) (Nat.pow_pos (by omega))
  rw [cmpN_gt]
  simpa [sv, val_nil] using h3
end Go.Proofs.YtecpgdfnamkfdaaGreatDoor.Pure
end
section
namespace Go.Proofs.YtecpgdfnamkfdaaGreatDoor.Fn
open Go.RowKit Go.Proofs.YtecpgdfnamkfdaaGreatDoorW.PrintWords Go.Proofs.YtecpgdfnamkfdaaGreatDoorW.PrintLast Go.Proofs.YtecpgdfnamkfdaaGreatDoorW.PrintMore
attribute [local go_sem] fnW_0 fnW_1 fnW_2 fnW_3 fnW_4 fnW_5 fnW_guard fnW_eql max2_int min2_int max_two min_two
set_option linter.unusedVariables false
set_option linter.unusedSimpArgs false
mutual
def bigdec_times.l0 : Nat → List Int → Int → Int → Int → Int → Option (List Int)
 | 0, _, _, _, _, _ => none
 | k + 1, x0, x1, x5, x9, x10 => if x10 < x9 then (if 0 ≤ x10 then (if x10 < (x0.length : Int) then (bigdec_times.l0 k (x0.set (x10 : Int).toNat (Int.tmod (IntKind.u64.wrap ((IntKind.u64.wrap ((rd x0 x10) * x1)) + x5)) 1000000000)) x1 (IntKind.u64.wrap (Int.tdiv (IntKind.u64.wrap ((IntKind.u64.wrap ((rd x0 x10) * x1)) + x5)) 1000000000)) x9 (wrap64 (x10 + 1))) else (none)) else (none)) else (bigdec_times.l1 k x0 x5)
def bigdec_times.l1 : Nat → List Int → Int → Option (List Int)
 | 0, _, _ => none
 | k + 1, x0, x5 => if x5 > 0 then (if x0.length < 17592186044416 then (bigdec_times.l1 k (x0 ++ [Int.tmod x5 1000000000]) (IntKind.u64.wrap (Int.tdiv x5 1000000000))) else (none)) else (some x0)
end
def bigdec_times.f (k : Nat) (l0 : List Int) (a1 : Int) : Option (List Int) := bigdec_times.l0 k l0 a1 0 (l0.length : Int) 0
set_option maxHeartbeats 8000000 in
set_option maxRecDepth 100000 in
theorem bigdec_times.calls (k : Nat) (P0_ : Nat → Prop) (u9000_ : Value) (l0 : List Int) (a1 : Int) (r : List Int) (w0 w : World) (hB : Below w0.heap.size w0 w) (ho0 : Kd.R (Kd.int .u64) 22 w w0.heap.size P0_ u9000_ l0) (h : bigdec_times.f k l0 a1 = some r) :
  Calls Tryz.prog 47 #[u9000_, .int .u64 a1] w fun e w' => ∃ v0_ : Value, e = .returned (v0_) ∧ Kd.R (Kd.int .u64) 22 w' w0.heap.size (fun k_ => (P0_ k_ ∨ w.heap.size ≤ k_)) v0_ r ∧ Below w0.heap.size w0 w' ∧ Kept w w' (fun k_ => P0_ k_) := by
 have HO0 := Aside0.mk (show Kd.R (Kd.int .u64) 22 w w0.heap.size (fun k_ => (P0_ k_ ∨ w.heap.size ≤ k_)) u9000_ l0 from Kd.R_mono ho0 (fun k_ hk => (.inl hk)))
 have HK := Aside0.mk (Kept.refl w (fun k_ => P0_ k_))
 have HW0 := Aside0.mk hB.size
 have HB := Aside0.mk hB
 clear hB
 have H : (bigdec_times.l0 k l0 a1 0 (l0.length : Int) 0) = some r := h
 clear h
 have H' := Aside0.mk H
 clear H
 obtain ⟨Ao3, co3, eo3⟩ := Kd.R_slice HO0.out
 subst eo3
 go_enter Tryz.func47, Tryz.ntmps47
 go_wp2
 go_loopg [5, 10] k (fun kq v5 v10 w' => ∃ (x0_1 : List Int) (x5_1 : Int) (x10_1 : Int), v5 = .int .u64 x5_1 ∧ v10 = .int .i64 x10_1 ∧ Aside0 (bigdec_times.l0 kq x0_1 a1 x5_1 (l0.length : Int) x10_1 = some r) ∧ Aside0 (kq ≤ k) ∧ Aside0 (Kd.R (Kd.int .u64) 22 w' w0.heap.size (fun k_ => (P0_ k_ ∨ w.heap.size ≤ k_)) (.slice Ao3 l0.length co3) x0_1) ∧ Aside0 (Kept w w' (fun k_ => P0_ k_)) ∧ Aside0 (Below w0.heap.size w0 w'))
 case atStart => exact ⟨(l0), (0), (0), rz, rz, H', ⟨Nat.le_refl _⟩, ⟨by (with_reducible repeat (first | apply Kd.R_alloc | apply Kd.R_drewN | apply Kd.R_drew)); exact HO0.out⟩, ⟨by repeat (first | (with_reducible first | exact HK.out | apply Kept.alloc | apply Kept.drewN | apply Kept.drew) | exact HK.out)⟩, ⟨bz⟩⟩
 case round =>
  clear H'
  obtain ⟨x0_1, x5_1, x10_1, rfl, rfl, HA, HK1, HO_0, HK, HB⟩ := hrel
  have hl0_1 := (Kd.R_reads' HO_0.out).1
  rw [hl0_1] at HO_0
  (try simp only [hl0_1])
  cases gk with
  | zero => exact absurd HA.out (by simp [bigdec_times.l0])
  | succ k1 =>
   have H := HA.out
   clear HA
   simp only [bigdec_times.l0] at H
   by_cases c4 : x10_1 < (l0.length : Int)
   ·replace H := hE H c4
    have c4b0 := decide_eq_true c4
    (try (have c4b9 := c4b0; (first | rw [hl0_1] at c4b9); skip))
    clear c4
    by_cases c5 : 0 ≤ x10_1
    ·replace H := hE H c5
     have c5b0 := decide_eq_true c5
     clear c5
     by_cases c6 : x10_1 < (x0_1.length : Int)
     ·replace H := hE H c6
      have c6b0 := decide_eq_true c6
      (try (have c6b9 := c6b0; (first | rw [hl0_1] at c6b9); skip))
      clear c6
      obtain ⟨y142, hy142⟩ : ∃ y_ : List Int, y_ = (x0_1.set (x10_1 : Int).toNat (Int.tmod (IntKind.u64.wrap ((IntKind.u64.wrap ((rd x0_1 x10_1) * a1)) + x5_1)) 1000000000)) := ⟨_, rfl⟩
      replace H : (bigdec_times.l0 k1 y142 a1 (IntKind.u64.wrap (Int.tdiv (IntKind.u64.wrap ((IntKind.u64.wrap ((rd x0_1 x10_1) * a1)) + x5_1)) 1000000000)) (l0.length : Int) (wrap64 (x10_1 + 1))) = some r := by first | (rw [hy142]; with_reducible exact H) | (have H2_ := (Option.bind_some _ _).symm.trans H; rw [hy142]; with_reducible exact H2_) | (have H2_ := (Option.bind_some _ _).symm.trans H; with_reducible exact H2_) | with_reducible exact H | (rw [hy142]; exact H) | exact H
      have Ny142 := Aside0.mk hy142
      clear hy142
      have H' := Aside0.mk H
      clear H
      have p141 : 0 ≤ (x10_1 : Int) := of_decide_eq_true (by first | (with_reducible assumption) | assumption)
      have q141 : x10_1 < (x0_1.length : Int) := of_decide_eq_true (by first | (with_reducible assumption) | assumption)
      obtain ⟨ad141, e141, hx141_0⟩ := Kd.at_int (Kd.R_reads' HO_0.out).2.2 x10_1 p141 q141
      cases e141
      replace p141 := eq_true p141
      replace q141 := eq_true q141
      have p7 : 0 ≤ (x10_1 : Int) := of_decide_eq_true (by first | (with_reducible assumption) | assumption)
      have q7 : (x10_1 : Int) < ((x0_1.length : Int) : Int) := of_decide_eq_true (by first | (with_reducible assumption) | assumption)
      obtain ⟨go7, co7, eo7, gb7, gl7, cl7, HG7⟩ := Kd.R_form HO_0.out (by omega)
      (first | cases eo7 | (injection eo7 with ea_ en_ ec_; (first | subst ea_ | (injection ea_ with ea_; subst ea_)); subst ec_; clear en_))
      have GB7 := Aside0.mk gb7
      have GG7 := Aside0.mk HG7
      clear gb7 gl7 HG7
      have HMgo7 := Aside0.mk (show (P0_ go7 ∨ w.heap.size ≤ go7) from (HO_0.out.1 _ rfl))
      (first | simp only [add_plain] at hx141_0 | skip)
      obtain ⟨hx7_0, hf7_0⟩ := Kd.R_celln 0 HO_0.out (x10_1 : Int) p7 q7
      replace p7 := eq_true p7
      replace q7 := eq_true q7
      have HP8 := Kd.R_putg HO_0.out (x10_1 : Int) (Int.tmod (IntKind.u64.wrap ((IntKind.u64.wrap ((rd x0_1 x10_1) * a1)) + x5_1)) 1000000000)
      go_wp2_with (first | ((with_reducible refine gate_store (t := 22) (p := 26) rfl ?_); refine store_event (t := 22) (p := 26) (v := ?vo_w9) (w1 := (wr.setCell ⟨go7, (x10_1 : Int).toNat, none⟩ (.int .u64 (Int.tmod (IntKind.u64.wrap ((IntKind.u64.wrap ((rd x0_1 x10_1) * a1)) + x5_1)) 1000000000)))) ?hg ?ho ?hn ?hr ?_; (case ho => rfl); (case hg => rfl); (case hn => rfl); (case hr => first | (go_simp; done) | (go_simp; rfl)); intro w9 hw; have hg : wr.grownBy w9 (some go7) := (by rw [hw]; exact HP8.2); have hp_ : Kd.R (Kd.int .u64) 22 w9 w0.heap.size (fun k_ => (P0_ k_ ∨ w.heap.size ≤ k_)) (.slice (some ⟨go7, 0, none⟩) x0_1.length co3) y142 := (by rw [hw, Ny142.out]; exact HP8.1); clear HP8; have n0_ := Aside0.mk (hp_); have n1_ := Aside0.mk ((by rw [hw]; exact below_set (HB.out) GB7.out : Below w0.heap.size w0 w9)); have n2_ := Aside0.mk (Kept.of_grown (S := (fun k_ => P0_ k_)) hg (by repeat (first | (with_reducible first | exact HK.out | apply Kept.alloc | apply Kept.drewN | apply Kept.drew) | exact HK.out)) (fun k_ e_ => (HO_0.out.1 k_ e_))); clear HO_0; clear HB; clear HK; have HO_0 := n0_; have HB := n1_; have HK := n2_; clear n0_ n1_ n2_; clear hg hw hp_))
      (try simp only [← hl0_1])
      go_roundg k1
      case measure => have := HK1.out; omega
      case rel => exact ⟨(y142), (IntKind.u64.wrap (Int.tdiv (IntKind.u64.wrap ((IntKind.u64.wrap ((rd x0_1 x10_1) * a1)) + x5_1)) 1000000000)), (wrap64 (x10_1 + 1)), rz, rz, H', ⟨by have := HK1.out; omega⟩, ⟨by (try simp only [hl0_1]); (with_reducible repeat (first | apply Kd.R_alloc | apply Kd.R_drewN | apply Kd.R_drew)); exact HO_0.out⟩, ⟨by repeat (first | (with_reducible first | exact HK.out | apply Kept.alloc | apply Kept.drewN | apply Kept.drew) | exact HK.out)⟩, ⟨bz⟩⟩
     ·replace H := hN H c6
      exact absurd H (by simp)
    ·replace H := hN H c5
     exact absurd H (by simp)
   ·replace H := hN H c4
    have c4b0 := decide_eq_false c4
    (try (have c4b9 := c4b0; (first | rw [hl0_1] at c4b9); skip))
    clear c4
    have H' := Aside0.mk H
    clear H
    go_wp2
    go_loopg [0, 5] k1 (fun kq v0 v5 w' => ∃ (x0_2 : List Int) (x5_2 : Int), v5 = .int .u64 x5_2 ∧ Aside0 (bigdec_times.l1 kq x0_2 x5_2 = some r) ∧ Aside0 (kq ≤ k1) ∧ Aside0 (Kd.R (Kd.int .u64) 22 w' w0.heap.size (fun k_ => (P0_ k_ ∨ w.heap.size ≤ k_)) v0 x0_2) ∧ Aside0 (Kept w w' (fun k_ => P0_ k_)) ∧ Aside0 (Below w0.heap.size w0 w'))
    case atStart => exact ⟨(x0_1), (x5_1), rz, H', ⟨Nat.le_refl _⟩, ⟨by (try simp only [hl0_1]); (with_reducible repeat (first | apply Kd.R_alloc | apply Kd.R_drewN | apply Kd.R_drew)); exact HO_0.out⟩, ⟨by repeat (first | (with_reducible first | exact HK.out | apply Kept.alloc | apply Kept.drewN | apply Kept.drew) | exact HK.out)⟩, ⟨bz⟩⟩
    case round =>
     clear H'
     try clear c4
     try clear c4b0
     try clear c5
     try clear c5b0
     try clear c6
     try clear c6b0
     try clear p7
     try clear q7
     try clear hx141_0
     try clear hx7_0
     try clear p141
     try clear p7
     try clear q141
     try clear q7
     obtain ⟨x0_2, x5_2, rfl, HA, HK2, HO_0, HK, HB⟩ := hrel
     cases gk with
     | zero => exact absurd HA.out (by simp [bigdec_times.l1])
     | succ k2 =>
      have H := HA.out
      clear HA
      simp only [bigdec_times.l1] at H
      by_cases c10 : x5_2 > 0
      ·replace H := hE H c10
       have c10b0 : decide (0 < x5_2) = true := decide_eq_true c10
       clear c10
       by_cases c11 : x0_2.length < 17592186044416
       ·replace H := hE H c11
        have LMc11 := Aside0.mk c11
        clear c11
        obtain ⟨y143, hy143⟩ : ∃ y_ : List Int, y_ = (x0_2 ++ [Int.tmod x5_2 1000000000]) := ⟨_, rfl⟩
        replace H : (bigdec_times.l1 k2 y143 (IntKind.u64.wrap (Int.tdiv x5_2 1000000000))) = some r := by first | (rw [hy143]; with_reducible exact H) | (have H2_ := (Option.bind_some _ _).symm.trans H; rw [hy143]; with_reducible exact H2_) | (have H2_ := (Option.bind_some _ _).symm.trans H; with_reducible exact H2_) | with_reducible exact H | (rw [hy143]; exact H) | exact H
        have Ny143 := Aside0.mk hy143
        clear hy143
        have H' := Aside0.mk H
        clear H
        go_wp2_with (first | ((with_reducible refine gate_builtin (b := .append) (xs := #[.tmp 30, .tmp 33]) rfl ?_); at_builtin; refine Kd.R_append (Kd.int .u64) (w0 := w0) w0.heap.size rfl (.tmp 30) (.tmp 33) 77 22 (.int .u64 0) 8 rfl Tryz.underlying77 info22 rfl (by decide) (by omega) u0 x0_2 (Int.tmod x5_2 1000000000) [.int .u64 (Int.tmod x5_2 1000000000)] (fun k_ => (P0_ k_ ∨ w.heap.size ≤ k_)) (fun _ => False) rfl rfl ?aP (fun _ hk => hk.elim) ?aF ?aO ?aB ?aS ?aL ?_; (case aP => exact rfl); (case aB => exact bz); (case aF => exact (fun k_ hk => (.inr (Nat.le_trans (by first | exact HK.out.1 | exact (show Kept w _ (fun k_ => P0_ k_) from by repeat (first | (with_reducible first | exact HK.out | apply Kept.alloc | apply Kept.drewN | apply Kept.drew) | exact HK.out)).1) hk)))); (case aO => exact (by (with_reducible repeat (first | apply Kd.R_alloc | apply Kd.R_drewN | apply Kd.R_drew)); exact HO_0.out)); (case aS => exact (below_size bz)); (case aL => have := LMc11.out; omega); intro v144 w12 ho hb hg hat; rw [← Ny143.out] at ho; have n0_ := Aside0.mk (hb); have n1_ := Aside0.mk (Kept.of_grown (S := (fun k_ => P0_ k_)) hg (by repeat (first | (with_reducible first | exact HK.out | apply Kept.alloc | apply Kept.drewN | apply Kept.drew) | exact HK.out)) (fun k_ e_ => (HO_0.out.1 k_ e_))); have n2_ := Aside0.mk (ho); clear HB; clear HK; clear HO_0; have HB := n0_; have HK := n1_; have HO145 := n2_; clear n0_ n1_ n2_; clear ho hb hg hat))
        go_roundg k2
        case measure => have := HK1.out; have := HK2.out; omega
        case rel => exact ⟨(y143), (IntKind.u64.wrap (Int.tdiv x5_2 1000000000)), rz, H', ⟨by have := HK1.out; have := HK2.out; omega⟩, ⟨by (try simp only [hl0_1]); (with_reducible repeat (first | apply Kd.R_alloc | apply Kd.R_drewN | apply Kd.R_drew)); exact HO145.out⟩, ⟨by repeat (first | (with_reducible first | exact HK.out | apply Kept.alloc | apply Kept.drewN | apply Kept.drew) | exact HK.out)⟩, ⟨bz⟩⟩
       ·replace H := hN H c11
        exact absurd H (by simp)
      ·replace H := hN H c10
       have c10b0 : decide (0 < x5_2) = false := decide_eq_false c10
       clear c10
       obtain rfl := Option.some.inj H
       go_wp2
       go_ret
       exact ⟨_, by first | rfl | (simp [errW_none, errW_some] <;> rfl) | (simp [*, errW_none, errW_some] <;> rfl), by (with_reducible repeat (first | apply Kd.R_alloc | apply Kd.R_drewN | apply Kd.R_drew)); exact HO_0.out, bz, by repeat (first | (with_reducible first | exact HK.out | apply Kept.alloc | apply Kept.drewN | apply Kept.drew) | exact HK.out)⟩
end Go.Proofs.YtecpgdfnamkfdaaGreatDoor.Fn
end
section
namespace Go.Proofs.YtecpgdfnamkfdaaGreatDoor.Fn
open Go.RowKit Go.Proofs.YtecpgdfnamkfdaaGreatDoorW.PrintWords Go.Proofs.YtecpgdfnamkfdaaGreatDoorW.PrintLast Go.Proofs.YtecpgdfnamkfdaaGreatDoorW.PrintMore
attribute [local go_sem] fnW_0 fnW_1 fnW_2 fnW_3 fnW_4 fnW_5 fnW_guard fnW_eql max2_int min2_int max_two min_two
set_option linter.unusedVariables false
set_option linter.unusedSimpArgs false
def bigdec_trimmed_uint64.l0 : Nat → List Int → Int → Option (List Int)
 | 0, _, _ => none
 | k + 1, x0, x3 => if (x0.length : Int) > 0 then (if 0 ≤ (wrap64 ((x0.length : Int) - 1)) then (if (wrap64 ((x0.length : Int) - 1)) < (x0.length : Int) then (if (rd x0 (wrap64 ((x0.length : Int) - 1))) = x3 then (if (wrap64 ((x0.length : Int) - 1)) ≤ (x0.length : Int) then (bigdec_trimmed_uint64.l0 k (x0.take ((wrap64 ((x0.length : Int) - 1)) : Int).toNat) x3) else (none)) else (some x0)) else (none)) else (none)) else (some x0)
def bigdec_trimmed_uint64.f (k : Nat) (l0 : List Int) : Option (List Int) := bigdec_trimmed_uint64.l0 k l0 0
set_option maxHeartbeats 8000000 in
set_option maxRecDepth 100000 in
theorem bigdec_trimmed_uint64.calls (k : Nat) (P0_ : Nat → Prop) (A0 : Option Addr) (c0 : Nat) (l0 : List Int) (r : List Int) (w : World) (hs0 : Kd.V (Kd.int .u64) 22 w w.heap.size (fun k_ => P0_ k_) (.slice A0 l0.length c0) l0) (h : bigdec_trimmed_uint64.f k l0 = some r) :
  Calls Tryz.prog 78 #[.slice A0 l0.length c0] w fun e w' => ∃ v0_ : Value, e = .returned (v0_) ∧ Kd.V (Kd.int .u64) 22 w' w.heap.size (fun k_ => (P0_ k_ ∨ w.heap.size ≤ k_)) v0_ r ∧ Below w.heap.size w w' := by
 have HO0 := Aside0.mk (show Kd.V (Kd.int .u64) 22 w w.heap.size (fun k_ => (P0_ k_ ∨ w.heap.size ≤ k_)) (.slice A0 l0.length c0) l0 from Kd.V_mono hs0 (fun k_ hk => .inl hk))
 have HB := Aside0.mk (Below.refl w.heap.size w)
 have H : (bigdec_trimmed_uint64.l0 k l0 0) = some r := h
 clear h
 have H' := Aside0.mk H
 clear H
 go_enter Tryz.func78, Tryz.ntmps78
 go_wp2
 go_loopg [0] k (fun kq v0 w' => ∃ (x0_1 : List Int), Aside0 (bigdec_trimmed_uint64.l0 kq x0_1 0 = some r) ∧ Aside0 (kq ≤ k) ∧ Aside0 (Kd.V (Kd.int .u64) 22 w' w.heap.size (fun k_ => (P0_ k_ ∨ w.heap.size ≤ k_)) v0 x0_1) ∧ Aside0 (Below w.heap.size w w'))
 case atStart => exact ⟨(l0), H', ⟨Nat.le_refl _⟩, ⟨by (with_reducible repeat (first | apply Kd.V_alloc | apply Kd.V_drewN | apply Kd.V_drew)); exact HO0.out⟩, ⟨bz⟩⟩
 case round =>
  clear H'
  obtain ⟨x0_1, HA, HK1, HO_0, HB⟩ := hrel
  cases gk with
  | zero => exact absurd HA.out (by simp [bigdec_trimmed_uint64.l0])
  | succ k1 =>
   have H := HA.out
   clear HA
   simp only [bigdec_trimmed_uint64.l0] at H
   by_cases c2 : (x0_1.length : Int) > 0
   ·replace H := hE H c2
    have c2b0 : decide (0 < (x0_1.length : Int)) = true := decide_eq_true c2
    have c2b1 : decide (0 < x0_1.length) = true := decide_eq_true (by omega)
    clear c2
    obtain ⟨ji3, hji3⟩ : ∃ j_ : Int, (wrap64 ((x0_1.length : Int) - 1)) = j_ := ⟨_, rfl⟩
    (first | rw [hji3] at H | simp only [hji3] at H)
    have hji3w : (IntKind.i64.wrap ((x0_1.length : Int) - 1)) = ji3 := (i64_w _).trans hji3
    by_cases c4 : 0 ≤ (ji3)
    ·replace H := hE H c4
     have c4b0 := decide_eq_true c4
     clear c4
     by_cases c5 : (ji3) < (x0_1.length : Int)
     ·replace H := hE H c5
      have c5b0 := decide_eq_true c5
      clear c5
      by_cases c6 : (rd x0_1 (ji3)) = 0
      ·replace H := hE H c6
       obtain ⟨c6b0, c6b1⟩ := eT c6
       clear c6
       have c7b0 := eq_true (of_decide_eq_true (by first | (with_reducible assumption) | assumption) : 0 ≤ (ji3))
       by_cases c8 : (ji3) ≤ (x0_1.length : Int)
       ·replace H := hE H c8
        have c8b0 := eq_true c8
        have c8b1 : decide ((ji3) ≤ (x0_1.length : Int)) = true := decide_eq_true c8
        clear c8
        obtain ⟨y147, hy147⟩ : ∃ y_ : List Int, y_ = (x0_1.take ((ji3) : Int).toNat) := ⟨_, rfl⟩
        replace H : (bigdec_trimmed_uint64.l0 k1 y147 0) = some r := by first | (rw [hy147]; with_reducible exact H) | (have H2_ := (Option.bind_some _ _).symm.trans H; rw [hy147]; with_reducible exact H2_) | (have H2_ := (Option.bind_some _ _).symm.trans H; with_reducible exact H2_) | with_reducible exact H | (rw [hy147]; exact H) | exact H
        have Ny147 := Aside0.mk hy147
        clear hy147
        have H' := Aside0.mk H
        clear H
        obtain ⟨Ao9, co9, eo9⟩ := Kd.V_slice HO_0.out
        subst eo9
        have p146 : 0 ≤ ((ji3) : Int) := of_decide_eq_true (by first | (with_reducible assumption) | assumption)
        have q146 : (ji3) < (x0_1.length : Int) := of_decide_eq_true (by first | (with_reducible assumption) | assumption)
        obtain ⟨ad146, e146, hx146_0⟩ := Kd.at_int (Kd.V_reads' HO_0.out).2.2 (ji3) p146 q146
        cases e146
        replace p146 := eq_true p146
        replace q146 := eq_true q146
        have q10 : ((ji3) : Int) ≤ ((x0_1.length : Int) : Int) := of_decide_eq_true (by first | (with_reducible assumption) | assumption)
        obtain ⟨i010, hi010, _, hsz10, _⟩ := info_parts info22
        have hroom10 : x0_1.length ≤ co9 := (Kd.V_reads' HO_0.out).2.1
        have hC10 : Kd.F (Kd.int .u64) _ _ (some ad146) x0_1.length x0_1 := (Kd.V_at (base := w.heap.size) HO_0.out).2.2
        have hcut10 := cut_to (P := Tryz.prog) 77 22 .i64 Tryz.underlying77 hi010 (some ad146) x0_1.length co9 (ji3) (of_decide_eq_true (by first | (with_reducible assumption) | assumption)) q10 hroom10
        have hr10 := Kd.F_take (m := ((ji3) : Int).toNat) hC10 (by omega)
        have hy10 : y147.length = ((ji3) : Int).toNat := (by rw [Ny147.out, List.length_take]; omega)
        rw [← Ny147.out] at hr10
        rw [← hy10] at hcut10
        have HO151 := Aside0.mk (show Kd.V (Kd.int .u64) 22 _ w.heap.size _ (.slice (some ad146) y147.length co9) y147 from Kd.V_mk (by omega) hr10)
        have HC151 := Aside0.mk (show y147.length ≤ co9 from by omega)
        clear hr10 hC10 hroom10 hi010 hsz10
        have KY10 := Aside0.mk hy10
        clear hy10
        replace q10 := eq_true q10
        go_wp2
        go_roundg k1
        case measure => have := HK1.out; omega
        case rel => exact ⟨(y147), H', ⟨by have := HK1.out; omega⟩, ⟨by (with_reducible repeat (first | apply Kd.V_alloc | apply Kd.V_drewN | apply Kd.V_drew)); exact HO151.out⟩, ⟨bz⟩⟩
       ·replace H := hN H c8
        exact absurd H (by simp)
      ·replace H := hN H c6
       obtain ⟨c6b0, c6b1⟩ := eF c6
       obtain rfl := Option.some.inj H
       obtain ⟨Ao11, co11, eo11⟩ := Kd.V_slice HO_0.out
       subst eo11
       have p146 : 0 ≤ ((ji3) : Int) := of_decide_eq_true (by first | (with_reducible assumption) | assumption)
       have q146 : (ji3) < (x0_1.length : Int) := of_decide_eq_true (by first | (with_reducible assumption) | assumption)
       obtain ⟨ad146, e146, hx146_0⟩ := Kd.at_int (Kd.V_reads' HO_0.out).2.2 (ji3) p146 q146
       cases e146
       replace p146 := eq_true p146
       replace q146 := eq_true q146
       go_wp2
       go_ret
       exact ⟨_, by first | rfl | (simp [errW_none, errW_some] <;> rfl) | (simp only [← hji3]; first | rfl | (simp [errW_none, errW_some] <;> rfl)) | (simp [*, errW_none, errW_some] <;> rfl), by (with_reducible repeat (first | apply Kd.V_alloc | apply Kd.V_drewN | apply Kd.V_drew)); exact HO_0.out, bz⟩
     ·replace H := hN H c5
      exact absurd H (by simp)
    ·replace H := hN H c4
     exact absurd H (by simp)
   ·replace H := hN H c2
    have c2b0 : decide (0 < (x0_1.length : Int)) = false := decide_eq_false c2
    have c2b1 : decide (0 < x0_1.length) = false := decide_eq_false (by omega)
    clear c2
    obtain rfl := Option.some.inj H
    obtain ⟨Ao12, co12, eo12⟩ := Kd.V_slice HO_0.out
    subst eo12
    go_wp2
    go_ret
    exact ⟨_, by first | rfl | (simp [errW_none, errW_some] <;> rfl) | (simp [*, errW_none, errW_some] <;> rfl), by (with_reducible repeat (first | apply Kd.V_alloc | apply Kd.V_drewN | apply Kd.V_drew)); exact HO_0.out, bz⟩
end Go.Proofs.YtecpgdfnamkfdaaGreatDoor.Fn
end
section
namespace Go.Proofs.YtecpgdfnamkfdaaGreatDoor.Fn
open Go.RowKit Go.Proofs.YtecpgdfnamkfdaaGreatDoorW.PrintWords Go.Proofs.YtecpgdfnamkfdaaGreatDoorW.PrintLast Go.Proofs.YtecpgdfnamkfdaaGreatDoorW.PrintMore
attribute [local go_sem] fnW_0 fnW_1 fnW_2 fnW_3 fnW_4 fnW_5 fnW_guard fnW_eql max2_int min2_int max_two min_two
set_option linter.unusedVariables false
set_option linter.unusedSimpArgs false
mutual
def bigdec_Add.j0 : Nat → ByteArray → Int → ByteArray → Int → Option (ByteArray × Int × Int)
 | 0, _, _, _, _ => none
 | k + 1, x285000, x285001, x286000, x286001 => if 0 ≤ (wrap64 ((wrap64 (x285001 - (mn (wrap64 (x285001 - (x285000.size : Int))) (wrap64 (x286001 - (x286000.size : Int)))))) + 1)) then (if (wrap64 ((wrap64 (x285001 - (mn (wrap64 (x285001 - (x285000.size : Int))) (wrap64 (x286001 - (x286000.size : Int)))))) + 1) : Int).toNat ≤ 281474976710656 then ((some (List.replicate (wrap64 ((wrap64 (x285001 - (mn (wrap64 (x285001 - (x285000.size : Int))) (wrap64 (x286001 - (x286000.size : Int)))))) + 1) : Int).toNat 0 : List Int)).bind fun y293 => (bigdec_Add.l0 k y293 (y293.length : Int) 0 x285000 x285001 x286000 x286001)) else (none)) else (none)
def bigdec_Add.l0 : Nat → List Int → Int → Int → ByteArray → Int → ByteArray → Int → Option (ByteArray × Int × Int)
 | 0, _, _, _, _, _, _, _ => none
 | k + 1, x61, x63, x64, x285000, x285001, x286000, x286001 => if x64 < x63 then (if 0 ≤ x64 then (if x64 < (x61.length : Int) then (bigdec_Add.l0 k (x61.set (x64 : Int).toNat 48) x63 (wrap64 (x64 + 1)) x285000 x285001 x286000 x286001) else (none)) else (none)) else (if 1 ≤ (x61.length : Int) then (if 2 ≤ (x61.length : Int) then (if x285000.size + 1 ≤ x61.length then (bigdec_Add.j2 k (cpyAt x61 1 x285000) x285000 x285001 x286000 x286001) else (none)) else (none)) else (none))
def bigdec_Add.j2 : Nat → List Int → ByteArray → Int → ByteArray → Int → Option (ByteArray × Int × Int)
 | 0, _, _, _, _, _ => none
 | k + 1, x8, x285000, x285001, x286000, x286001 => bigdec_Add.l1 k x8 0 (wrap64 ((x8.length : Int) - 1)) x285000 x285001 x286000 x286001
def bigdec_Add.l1 : Nat → List Int → Int → Int → ByteArray → Int → ByteArray → Int → Option (ByteArray × Int × Int)
 | 0, _, _, _, _, _, _, _ => none
 | k + 1, x8, x10, x11, x285000, x285001, x286000, x286001 => if x11 ≥ 0 then (if 0 ≤ x11 then (if x11 < (x8.length : Int) then (if (wrap64 ((wrap64 (x11 - 1)) - (wrap64 (x285001 - x286001)))) ≥ 0 then (if (wrap64 ((wrap64 (x11 - 1)) - (wrap64 (x285001 - x286001)))) < (x286000.size : Int) then (if 0 ≤ (wrap64 ((wrap64 (x11 - 1)) - (wrap64 (x285001 - x286001)))) then (bigdec_Add.l1 k (x8.set (x11 : Int).toNat (48 + ((((((((rd x8 x11) - 48) % 256) + x10) % 256) + (((bt x286000 (wrap64 ((wrap64 (x11 - 1)) - (wrap64 (x285001 - x286001))))) - 48) % 256)) % 256) % 10))) ((((((((rd x8 x11) - 48) % 256) + x10) % 256) + (((bt x286000 (wrap64 ((wrap64 (x11 - 1)) - (wrap64 (x285001 - x286001))))) - 48) % 256)) % 256) / 10) (wrap64 (x11 - 1)) x285000 x285001 x286000 x286001) else (none)) else (bigdec_Add.l1 k (x8.set (x11 : Int).toNat (48 + ((((((rd x8 x11) - 48) % 256) + x10) % 256) % 10))) ((((((rd x8 x11) - 48) % 256) + x10) % 256) / 10) (wrap64 (x11 - 1)) x285000 x285001 x286000 x286001)) else (bigdec_Add.l1 k (x8.set (x11 : Int).toNat (48 + ((((((rd x8 x11) - 48) % 256) + x10) % 256) % 10))) ((((((rd x8 x11) - 48) % 256) + x10) % 256) / 10) (wrap64 (x11 - 1)) x285000 x285001 x286000 x286001)) else (none)) else (none)) else ((bigdec_form.f (strOfNums x8) (wrap64 (x285001 + 1))).bind fun bt306 => (if (bt306.1.size : Int) > 2000 then (some ((⟨#[]⟩ : ByteArray), 0, 2)) else (some (bt306.1, bt306.2, 0))))
end
def bigdec_Add.f (k : Nat) (a0_0 : ByteArray) (a0_1 : Int) (a1_0 : ByteArray) (a1_1 : Int) : Option (ByteArray × Int × Int) := (bigdec_two.f k a0_0 a0_1 a1_0 a1_1).bind fun bt287 => (if bt287.2.2.2.2 = 0 then (if bt287.1.toList = ([] : List UInt8) then (some (bt287.2.2.1, bt287.2.2.2.1, 0)) else (if bt287.2.2.1.toList = ([] : List UInt8) then (some (bt287.1, bt287.2.1, 0)) else ((bigdec_cmp.f k bt287.1 bt287.2.1 bt287.2.2.1 bt287.2.2.2.1).bind fun t292 => (if t292 < 0 then (bigdec_Add.j0 k bt287.2.2.1 bt287.2.2.2.1 bt287.1 bt287.2.1) else (bigdec_Add.j0 k bt287.1 bt287.2.1 bt287.2.2.1 bt287.2.2.2.1))))) else (some ((⟨#[]⟩ : ByteArray), 0, bt287.2.2.2.2)))
set_option maxHeartbeats 8000000 in
set_option maxRecDepth 100000 in
theorem bigdec_Add.calls (k : Nat) (a0_0 : ByteArray) (a0_1 : Int) (a1_0 : ByteArray) (a1_1 : Int) (r1 : ByteArray) (r2 : Int) (r3 : Int) (w : World) (h : bigdec_Add.f k a0_0 a0_1 a1_0 a1_1 = some (r1, r2, r3)) :
  Calls Tryz.prog 83 #[.agg #[.string a0_0, .int .i64 a0_1], .agg #[.string a1_0, .int .i64 a1_1]] w fun e w' => e = .returned (.tuple #[.agg #[.string r1, .int .i64 r2], .int .i64 r3]) ∧ Below w.heap.size w w' := by
 have hu42 := Tryz.underlying42
 have HB := Aside0.mk (Below.refl w.heap.size w)
 have H : ((bigdec_two.f k a0_0 a0_1 a1_0 a1_1).bind fun bt287 => (if bt287.2.2.2.2 = 0 then (if bt287.1.toList = ([] : List UInt8) then (some (bt287.2.2.1, bt287.2.2.2.1, 0)) else (if bt287.2.2.1.toList = ([] : List UInt8) then (some (bt287.1, bt287.2.1, 0)) else ((bigdec_cmp.f k bt287.1 bt287.2.1 bt287.2.2.1 bt287.2.2.2.1).bind fun t292 => (if t292 < 0 then (bigdec_Add.j0 k bt287.2.2.1 bt287.2.2.2.1 bt287.1 bt287.2.1) else (bigdec_Add.j0 k bt287.1 bt287.2.1 bt287.2.2.1 bt287.2.2.2.1))))) else (some ((⟨#[]⟩ : ByteArray), 0, bt287.2.2.2.2)))) = some (r1, r2, r3) := h
 clear h
 replace H := bs H
 obtain ⟨⟨t287, t288, t289, t290, t291⟩, A3, H⟩ := H
 dsimp only at H
 go_enter Tryz.func83, Tryz.ntmps83
 go_upto_if 22 with (first | ((with_reducible refine gate_dst (N := 2) rfl ?_); (try (refine gate_guard (by rfl) ?_; dsimp only)); refine box_event rfl (N := 2) rfl (cs := #[.string a0_0, .int .i64 a0_1]) (t := 42) gz ?_; intro gb284 hg w4 hbox hb; have GE284 := gN bz hg; have BK284 := Aside0.mk hbox; replace HB := bN bz hb; clear hb hbox hg) | ((with_reducible refine gate_dst (N := 3) rfl ?_); (try (refine gate_guard (by rfl) ?_; dsimp only)); refine box_event rfl (N := 3) rfl (cs := #[.string a1_0, .int .i64 a1_1]) (t := 42) gz ?_; intro gb285 hg w5 hbox hb; have GE285 := gN bz hg; have NB284_285 := lN (g := gb284) (cs := #[.string a0_0, .int .i64 a0_1]) hg bk; have NB285_284 := rN (g := gb284) (cs := #[.string a0_0, .int .i64 a0_1]) hg bk; replace BK284 := kN (g := gb284) (cs := #[.string a0_0, .int .i64 a0_1]) hb bk; have BK285 := Aside0.mk hbox; replace HB := bN bz hb; clear hb hbox hg) | ((with_reducible refine gate_dst (N := 4) rfl ?_); (try (refine gate_guard (by rfl) ?_; dsimp only)); refine box_event rfl (N := 4) rfl (cs := #[.string (⟨#[]⟩ : ByteArray), .int .i64 0]) (t := 42) gz ?_; intro gb286 hg w6 hbox hb; have GE286 := gN bz hg; have NB284_286 := lN (g := gb284) (cs := #[.string a0_0, .int .i64 a0_1]) hg bk; have NB286_284 := rN (g := gb284) (cs := #[.string a0_0, .int .i64 a0_1]) hg bk; have NB285_286 := lN (g := gb285) (cs := #[.string a1_0, .int .i64 a1_1]) hg bk; have NB286_285 := rN (g := gb285) (cs := #[.string a1_0, .int .i64 a1_1]) hg bk; replace BK284 := kN (g := gb284) (cs := #[.string a0_0, .int .i64 a0_1]) hb bk; replace BK285 := kN (g := gb285) (cs := #[.string a1_0, .int .i64 a1_1]) hb bk; have BK286 := Aside0.mk hbox; replace HB := bN bz hb; clear hb hbox hg; have hnb7 := NB284_285.out; have hnc7 := NB285_284.out; have hnb8 := NB284_286.out; have hnc8 := NB286_284.out; obtain ⟨hcz9_0, hcz9_1, hfz9_0, hfz9_1⟩ := cz2 (W := w6) BK284; have hnb10 := NB285_286.out; have hnc10 := NB286_285.out; obtain ⟨hcz11_0, hcz11_1, hfz11_0, hfz11_1⟩ := cz2 (W := w6) BK285) | (go_at_call 127; (with_reducible refine (bigdec_two.calls k a0_0 a0_1 a1_0 a1_1 t287 t288 t289 t290 t291 _ A3.out).mono ?_); rintro e w12 ⟨rfl, hb⟩; replace BK284 := kN (g := gb284) (cs := #[.string a0_0, .int .i64 a0_1]) hb bk; replace BK285 := kN (g := gb285) (cs := #[.string a1_0, .int .i64 a1_1]) hb bk; replace BK286 := kN (g := gb286) (cs := #[.string (⟨#[]⟩ : ByteArray), .int .i64 0]) hb bk; replace HB := bN bz hb; (try clear hb); (try clear hb2); (try clear hk); (try clear hi); obtain ⟨hcz13_0, hcz13_1, hfz13_0, hfz13_1⟩ := cz2 (W := w12) BK284; obtain ⟨hcz14_0, hcz14_1, hfz14_0, hfz14_1⟩ := cz2 (W := w12) BK285))
 (try simp only [Act.put, List.setIfInBounds_toArray, List.set_cons_zero, List.set_cons_succ])
 by_cases c15 : t291 = 0
 ·replace H := hE H c15
  obtain ⟨c15b0, c15b1⟩ := eT c15
  clear c15
  try first | rw [c15b0] | rw [c15b1]
  by_cases c16 : t287.toList = ([] : List UInt8)
  ·replace H := hE H c16
   have c16b0 : (t287.toList == ([] : List UInt8)) = true := beq_iff_eq.mpr c16
   have c16b1 : (t287.toList != ([] : List UInt8)) = false := bne_eq_false_iff_eq.mpr c16
   have c16b7 : t287.toList.isEmpty = true := by simpa using c16b0
   clear c16
   simp only [Option.some.injEq, Prod.mk.injEq] at H
   obtain ⟨rfl, rfl, rfl⟩ := H
   have hnb17 := NB284_285.out
   have hnc17 := NB285_284.out
   have hnb18 := NB284_286.out
   have hnc18 := NB286_284.out
   obtain ⟨hcz19_0, hcz19_1, hfz19_0, hfz19_1⟩ := cz2 (W := w12) BK284
   have hnb20 := NB285_286.out
   have hnc20 := NB286_285.out
   obtain ⟨hcz21_0, hcz21_1, hfz21_0, hfz21_1⟩ := cz2 (W := w12) BK285
   obtain ⟨hcz22_0, hcz22_1, hfz22_0, hfz22_1⟩ := cz2 (W := w12) BK286
   go_wp2
   refine bodyPost_ret (results_ct rfl _ _ gb286 42 #[.string t289, .int .i64 t290] (0, 0) _ rfl bk Tryz.underlying42 rfl (by kernel_rfl)) rfl ?_
   exact ⟨ez, bz⟩
  ·replace H := hN H c16
   have c16b0 : (t287.toList == ([] : List UInt8)) = false := beq_eq_false_iff_ne.mpr c16
   have c16b1 : (t287.toList != ([] : List UInt8)) = true := bne_iff_ne.mpr c16
   have c16b7 : t287.toList.isEmpty = false := by simpa using c16b0
   by_cases c23 : t289.toList = ([] : List UInt8)
   ·replace H := hE H c23
    have c23b0 : (t289.toList == ([] : List UInt8)) = true := beq_iff_eq.mpr c23
    have c23b1 : (t289.toList != ([] : List UInt8)) = false := bne_eq_false_iff_eq.mpr c23
    have c23b7 : t289.toList.isEmpty = true := by simpa using c23b0
    clear c23
    simp only [Option.some.injEq, Prod.mk.injEq] at H
    obtain ⟨rfl, rfl, rfl⟩ := H
    have hnb24 := NB284_285.out
    have hnc24 := NB285_284.out
    have hnb25 := NB284_286.out
    have hnc25 := NB286_284.out
    obtain ⟨hcz26_0, hcz26_1, hfz26_0, hfz26_1⟩ := cz2 (W := w12) BK284
    have hnb27 := NB285_286.out
    have hnc27 := NB286_285.out
    obtain ⟨hcz28_0, hcz28_1, hfz28_0, hfz28_1⟩ := cz2 (W := w12) BK285
    obtain ⟨hcz29_0, hcz29_1, hfz29_0, hfz29_1⟩ := cz2 (W := w12) BK286
    go_wp2
    refine bodyPost_ret (results_ct rfl _ _ gb286 42 #[.string t287, .int .i64 t288] (0, 0) _ rfl bk Tryz.underlying42 rfl (by kernel_rfl)) rfl ?_
    exact ⟨ez, bz⟩
   ·replace H := hN H c23
    have c23b0 : (t289.toList == ([] : List UInt8)) = false := beq_eq_false_iff_ne.mpr c23
    have c23b1 : (t289.toList != ([] : List UInt8)) = true := bne_iff_ne.mpr c23
    have c23b7 : t289.toList.isEmpty = false := by simpa using c23b0
    replace H := bs H
    obtain ⟨t292, A30, H⟩ := H
    have HC31 := Aside0.mk H
    clear H
    have hnb32 := NB284_285.out
    have hnc32 := NB285_284.out
    have hnb33 := NB284_286.out
    have hnc33 := NB286_284.out
    obtain ⟨hcz34_0, hcz34_1, hfz34_0, hfz34_1⟩ := cz2 (W := w12) BK284
    have hnb35 := NB285_286.out
    have hnc35 := NB286_285.out
    obtain ⟨hcz36_0, hcz36_1, hfz36_0, hfz36_1⟩ := cz2 (W := w12) BK285
    go_upto_if 40 with (first | (go_at_call 128; (with_reducible refine (bigdec_cmp.calls k t287 t288 t289 t290 t292 _ A30.out).mono ?_); rintro e w37 ⟨rfl, hb⟩; replace BK284 := kN (g := gb284) (cs := #[.string t287, .int .i64 t288]) hb bk; replace BK285 := kN (g := gb285) (cs := #[.string t289, .int .i64 t290]) hb bk; replace BK286 := kN (g := gb286) (cs := #[.string (⟨#[]⟩ : ByteArray), .int .i64 0]) hb bk; replace HB := bN bz hb; (try clear hb); (try clear hb2); (try clear hk); (try clear hi)))
    (try simp only [Act.put, List.setIfInBounds_toArray, List.set_cons_zero, List.set_cons_succ])
    go_cut [] (fun wc => ∃ (kq : Nat) (x285000_30 : ByteArray) (x285001_30 : Int) (x286000_30 : ByteArray) (x286001_30 : Int), Aside0 (bigdec_Add.j0 kq x285000_30 x285001_30 x286000_30 x286001_30 = some (r1, r2, r3)) ∧ Aside0 (kq ≤ k) ∧ Aside0 (wc.heap[gb284]? = some (.cells #[.string x285000_30, .int .i64 x285001_30] 42 (0, 0))) ∧ Aside0 (wc.heap[gb285]? = some (.cells #[.string x286000_30, .int .i64 x286001_30] 42 (0, 0))) ∧ Aside0 (wc.heap[gb286]? = some (.cells #[.string (⟨#[]⟩ : ByteArray), .int .i64 0] 42 (0, 0))) ∧ Aside0 (Below w.heap.size w wc))
    case first =>
     have H := HC31.out
     clear HC31
     by_cases c38 : t292 < 0
     ·replace H := hE H c38
      have c38b0 := decide_eq_true c38
      clear c38
      try rw [c38b0]
      have H' := Aside0.mk H
      clear H
      have hnb39 := NB285_284.out
      have hnc39 := NB284_285.out
      have hnb40 := NB285_286.out
      have hnc40 := NB286_285.out
      obtain ⟨hcz41_0, hcz41_1, hfz41_0, hfz41_1⟩ := cz2 (W := w37) BK285
      have hnb42 := NB284_286.out
      have hnc42 := NB286_284.out
      obtain ⟨hcz43_0, hcz43_1, hfz43_0, hfz43_1⟩ := cz2 (W := w37) BK284
      go_wp2
      go_meet
      case rel => exact ⟨_, (t289), (t290), (t287), (t288), H', ⟨by first | omega | exact Nat.le_refl _⟩, ⟨bk⟩, ⟨bk⟩, ⟨bk⟩, ⟨bz⟩⟩
     ·replace H := hN H c38
      have c38b0 := decide_eq_false c38
      clear c38
      try rw [c38b0]
      have H' := Aside0.mk H
      clear H
      go_wp2
      go_meet
      case rel => exact ⟨_, (t287), (t288), (t289), (t290), H', ⟨by first | omega | exact Nat.le_refl _⟩, ⟨bk⟩, ⟨bk⟩, ⟨bk⟩, ⟨bz⟩⟩
    case rest =>
     clear HC31
     try clear c15
     try clear c15b0
     try clear c15b1
     try clear c16
     try clear c16b0
     try clear c16b1
     try clear c23
     try clear c23b0
     try clear c23b1
     try clear c38
     try clear c38b0
     try clear hcz11_0 hcz11_1 hfz11_0 hfz11_1
     try clear hcz13_0 hcz13_1 hfz13_0 hfz13_1
     try clear hcz14_0 hcz14_1 hfz14_0 hfz14_1
     try clear hcz19_0 hcz19_1 hfz19_0 hfz19_1
     try clear hcz21_0 hcz21_1 hfz21_0 hfz21_1
     try clear hcz22_0 hcz22_1 hfz22_0 hfz22_1
     try clear hcz26_0 hcz26_1 hfz26_0 hfz26_1
     try clear hcz28_0 hcz28_1 hfz28_0 hfz28_1
     try clear hcz29_0 hcz29_1 hfz29_0 hfz29_1
     try clear hcz34_0 hcz34_1 hfz34_0 hfz34_1
     try clear hcz36_0 hcz36_1 hfz36_0 hfz36_1
     try clear hcz41_0 hcz41_1 hfz41_0 hfz41_1
     try clear hcz43_0 hcz43_1 hfz43_0 hfz43_1
     try clear hcz9_0 hcz9_1 hfz9_0 hfz9_1
     obtain ⟨kq, x285000_30, x285001_30, x286000_30, x286001_30, HA, HJ30, BK284, BK285, BK286, HB⟩ := hcut
     cases kq with
     | zero => exact absurd HA.out (by simp [bigdec_Add.j0])
     | succ kj30 =>
      have H := HA.out
      clear HA
      simp only [bigdec_Add.j0] at H
      obtain ⟨ji44, hji44⟩ : ∃ j_ : Int, (mn (wrap64 (x285001_30 - (x285000_30.size : Int))) (wrap64 (x286001_30 - (x286000_30.size : Int)))) = j_ := ⟨_, rfl⟩
      (first | rw [hji44] at H | simp only [hji44] at H)
      have hji44_ : (if (wrap64 (x286001_30 - (x286000_30.size : Int))) < (wrap64 (x285001_30 - (x285000_30.size : Int))) then (wrap64 (x286001_30 - (x286000_30.size : Int))) else (wrap64 (x285001_30 - (x285000_30.size : Int)))) = ji44 := hji44
      obtain ⟨ji45, hji45⟩ : ∃ j_ : Int, (wrap64 ((wrap64 (x285001_30 - (ji44))) + 1)) = j_ := ⟨_, rfl⟩
      (first | rw [hji45] at H | simp only [hji45] at H)
      have hji45w : (IntKind.i64.wrap ((wrap64 (x285001_30 - (ji44))) + 1)) = ji45 := (i64_w _).trans hji45
      by_cases c46 : 0 ≤ (ji45)
      ·replace H := hE H c46
       have c46b0 := eq_true c46
       have c46b1 : decide (0 ≤ (ji45)) = true := decide_eq_true c46
       clear c46
       by_cases c47 : (ji45 : Int).toNat ≤ 281474976710656
       ·replace H := hE H c47
        have c47b0 := eq_true c47
        have c47b1 : decide ((ji45 : Int).toNat ≤ 281474976710656) = true := decide_eq_true c47
        clear c47
        obtain ⟨y293, hy293⟩ : ∃ y_ : List Int, y_ = (List.replicate (ji45 : Int).toNat 0) := ⟨_, rfl⟩
        replace H : (bigdec_Add.l0 kj30 y293 (y293.length : Int) 0 x285000_30 x285001_30 x286000_30 x286001_30) = some (r1, r2, r3) := by first | (rw [hy293]; with_reducible exact H) | (have H2_ := (Option.bind_some _ _).symm.trans H; rw [hy293]; with_reducible exact H2_) | (have H2_ := (Option.bind_some _ _).symm.trans H; with_reducible exact H2_) | with_reducible exact H | (rw [hy293]; exact H) | exact H
        have Ny293 := Aside0.mk hy293
        clear hy293
        have H' := Aside0.mk H
        clear H
        have hnb48 := NB284_285.out
        have hnc48 := NB285_284.out
        have hnb49 := NB284_286.out
        have hnc49 := NB286_284.out
        obtain ⟨hcz50_0, hcz50_1, hfz50_0, hfz50_1⟩ := cz2 (W := wc) BK284
        have hnb51 := NB285_286.out
        have hnc51 := NB286_285.out
        obtain ⟨hcz52_0, hcz52_1, hfz52_0, hfz52_1⟩ := cz2 (W := wc) BK285
        go_wp2_with (first | ((with_reducible refine gate_dst (N := 61) rfl ?_); (try (refine gate_guard (by rfl) ?_; dsimp only)); refine Kd.R_make (Kd.int .u8) _ 5 rfl (N := 61) rfl 51 _ _ rfl ji45 rfl rfl Tryz.underlying51 (.int .u8 0) 1 info5 rfl (by decide) (by omega) 0 (ok := fun _ => True) (okp := fun _ => True) rfl (fun _ hk => hk) trivial (of_decide_eq_true (by first | (with_reducible assumption) | assumption)) (Nat.le_trans (Nat.mul_le_mul_right _ (of_decide_eq_true (by first | (with_reducible assumption) | assumption) : ji45.toNat ≤ 281474976710656)) (by omega)) (Below.refl _ _) (Nat.le_refl _) ?_; intro v294 w53 ho54 hb hg_ hnew_; clear hg_ hnew_; (first | rw [← Ny293.out] at ho54 | (simp only [Int.reduceToNat] at ho54; rw [← Ny293.out] at ho54)); have n0_ := Aside0.mk (Kd.R_lower ho54 (below_size bz)); have n1_ := Aside0.mk (blk_below (g := gb284) (o := .cells #[.string x285000_30, .int .i64 x285001_30] 42 (0, 0)) bk hb); have n2_ := Aside0.mk (blk_below (g := gb285) (o := .cells #[.string x286000_30, .int .i64 x286001_30] 42 (0, 0)) bk hb); have n3_ := Aside0.mk (blk_below (g := gb286) (o := .cells #[.string (⟨#[]⟩ : ByteArray), .int .i64 0] 42 (0, 0)) bk hb); have n4_ := Aside0.mk (below_step bz hb); clear BK284; clear BK285; clear BK286; clear HB; have HO295 := n0_; have BK284 := n1_; have BK285 := n2_; have BK286 := n3_; have HB := n4_; clear n0_ n1_ n2_ n3_ n4_; clear hb ho54; obtain ⟨Ao55, co55, eo55⟩ := Kd.R_slice HO295.out; subst eo55))
        go_loopg [64] kj30 (fun kq v64 w' => ∃ (x61_2 : List Int) (x64_2 : Int), v64 = .int .i64 x64_2 ∧ Aside0 (bigdec_Add.l0 kq x61_2 (y293.length : Int) x64_2 x285000_30 x285001_30 x286000_30 x286001_30 = some (r1, r2, r3)) ∧ Aside0 (kq ≤ kj30) ∧ Aside0 (Kd.R (Kd.int .u8) 5 w' w.heap.size (fun _ => True) (.slice Ao55 y293.length co55) x61_2) ∧ Aside0 (w'.heap[gb284]? = some (.cells #[.string x285000_30, .int .i64 x285001_30] 42 (0, 0))) ∧ Aside0 (w'.heap[gb285]? = some (.cells #[.string x286000_30, .int .i64 x286001_30] 42 (0, 0))) ∧ Aside0 (w'.heap[gb286]? = some (.cells #[.string (⟨#[]⟩ : ByteArray), .int .i64 0] 42 (0, 0))) ∧ Aside0 (Below w.heap.size w w'))
        case atStart => exact ⟨(y293), (0), rz, H', ⟨Nat.le_refl _⟩, ⟨by (with_reducible repeat (first | apply Kd.R_alloc | apply Kd.R_drewN | apply Kd.R_drew)); exact HO295.out⟩, ⟨bk⟩, ⟨bk⟩, ⟨bk⟩, ⟨bz⟩⟩
        case round =>
         clear H'
         try clear c15
         try clear c15b0
         try clear c15b1
         try clear c16
         try clear c16b0
         try clear c16b1
         try clear c23
         try clear c23b0
         try clear c23b1
         try clear c38
         try clear c38b0
         try clear c46
         try clear c46b0
         try clear c46b1
         try clear c47
         try clear c47b0
         try clear c47b1
         try clear hcz11_0 hcz11_1 hfz11_0 hfz11_1
         try clear hcz13_0 hcz13_1 hfz13_0 hfz13_1
         try clear hcz14_0 hcz14_1 hfz14_0 hfz14_1
         try clear hcz19_0 hcz19_1 hfz19_0 hfz19_1
         try clear hcz21_0 hcz21_1 hfz21_0 hfz21_1
         try clear hcz22_0 hcz22_1 hfz22_0 hfz22_1
         try clear hcz26_0 hcz26_1 hfz26_0 hfz26_1
         try clear hcz28_0 hcz28_1 hfz28_0 hfz28_1
         try clear hcz29_0 hcz29_1 hfz29_0 hfz29_1
         try clear hcz34_0 hcz34_1 hfz34_0 hfz34_1
         try clear hcz36_0 hcz36_1 hfz36_0 hfz36_1
         try clear hcz41_0 hcz41_1 hfz41_0 hfz41_1
         try clear hcz43_0 hcz43_1 hfz43_0 hfz43_1
         try clear hcz50_0 hcz50_1 hfz50_0 hfz50_1
         try clear hcz52_0 hcz52_1 hfz52_0 hfz52_1
         try clear hcz9_0 hcz9_1 hfz9_0 hfz9_1
         obtain ⟨x61_2, x64_2, rfl, HA, HK2, HO_61, BK284, BK285, BK286, HB⟩ := hrel
         have hl61_2 := (Kd.R_reads' HO_61.out).1
         rw [hl61_2] at HO_61
         (try simp only [hl61_2])
         (try simp only [hl61_2] at BK284)
         (try simp only [hl61_2] at BK285)
         (try simp only [hl61_2] at BK286)
         cases gk with
         | zero => exact absurd HA.out (by simp [bigdec_Add.l0])
         | succ k2 =>
          have H := HA.out
          clear HA
          simp only [bigdec_Add.l0] at H
          by_cases c56 : x64_2 < (y293.length : Int)
          ·replace H := hE H c56
           have c56b0 := decide_eq_true c56
           (try (have c56b9 := c56b0; (first | rw [hl61_2] at c56b9); skip))
           clear c56
           by_cases c57 : 0 ≤ x64_2
           ·replace H := hE H c57
            have c57b0 := decide_eq_true c57
            clear c57
            by_cases c58 : x64_2 < (x61_2.length : Int)
            ·replace H := hE H c58
             have c58b0 := decide_eq_true c58
             (try (have c58b9 := c58b0; (first | rw [hl61_2] at c58b9); skip))
             clear c58
             obtain ⟨y296, hy296⟩ : ∃ y_ : List Int, y_ = (x61_2.set (x64_2 : Int).toNat 48) := ⟨_, rfl⟩
             replace H : (bigdec_Add.l0 k2 y296 (y293.length : Int) (wrap64 (x64_2 + 1)) x285000_30 x285001_30 x286000_30 x286001_30) = some (r1, r2, r3) := by first | (rw [hy296]; with_reducible exact H) | (have H2_ := (Option.bind_some _ _).symm.trans H; rw [hy296]; with_reducible exact H2_) | (have H2_ := (Option.bind_some _ _).symm.trans H; with_reducible exact H2_) | with_reducible exact H | (rw [hy296]; exact H) | exact H
             have Ny296 := Aside0.mk hy296
             clear hy296
             have H' := Aside0.mk H
             clear H
             have p59 : 0 ≤ (x64_2 : Int) := of_decide_eq_true (by first | (with_reducible assumption) | assumption)
             have q59 : (x64_2 : Int) < ((x61_2.length : Int) : Int) := of_decide_eq_true (by first | (with_reducible assumption) | assumption)
             obtain ⟨go59, co59, eo59, gb59, gl59, cl59, HG59⟩ := Kd.R_form HO_61.out (by omega)
             (first | cases eo59 | (injection eo59 with ea_ en_ ec_; (first | subst ea_ | (injection ea_ with ea_; subst ea_)); subst ec_; clear en_))
             have GB59 := Aside0.mk gb59
             have GG59 := Aside0.mk HG59
             clear gb59 gl59 HG59
             obtain ⟨hx59_0, hf59_0⟩ := Kd.R_celln 0 HO_61.out (x64_2 : Int) p59 q59
             replace p59 := eq_true p59
             replace q59 := eq_true q59
             have HP60 := Kd.R_putg HO_61.out (x64_2 : Int) 48
             go_wp2_with (first | ((with_reducible refine gate_store (t := 5) (p := 69) rfl ?_); (try (rw [drewN_self wr]; generalize hq_ : World.drewN wr _ = wr; have n0_ := Aside0.mk (Kd.R_at hq_ HO_61.out); have n1_ := Aside0.mk (blk_at hq_ BK284.out); have n2_ := Aside0.mk (blk_at hq_ BK285.out); have n3_ := Aside0.mk (blk_at hq_ BK286.out); have n4_ := Aside0.mk (below_at hq_ HB.out); clear hq_ HO_61 BK284 BK285 BK286 HB; have HO_61 := n0_; have BK284 := n1_; have BK285 := n2_; have BK286 := n3_; have HB := n4_; clear n0_ n1_ n2_ n3_ n4_; (try (have HP60 := Kd.R_putg HO_61.out (x64_2 : Int) 48)))); refine store_event (t := 5) (p := 69) (v := ?vo_w61) (w1 := (wr.setCell ⟨go59, (x64_2 : Int).toNat, none⟩ (.int .u8 48))) ?hg ?ho ?hn ?hr ?_; (case ho => rfl); (case hg => rfl); (case hn => rfl); (case hr => first | (go_simp; done) | (go_simp; rfl)); intro w61 hw; have hg : wr.grownBy w61 (some go59) := (by rw [hw]; exact HP60.2); have hp_ : Kd.R (Kd.int .u8) 5 w61 w.heap.size (fun _ => True) (.slice (some ⟨go59, 0, none⟩) x61_2.length co55) y296 := (by rw [hw, Ny296.out]; exact HP60.1); clear HP60; have n0_ := Aside0.mk (hp_); have n1_ := Aside0.mk (blk_grown (g := gb284) (o := .cells #[.string x285000_30, .int .i64 x285001_30] 42 (0, 0)) bk hg (Kd.R_ne HO_61.out BK284.out (by decide))); have n2_ := Aside0.mk (blk_grown (g := gb285) (o := .cells #[.string x286000_30, .int .i64 x286001_30] 42 (0, 0)) bk hg (Kd.R_ne HO_61.out BK285.out (by decide))); have n3_ := Aside0.mk (blk_grown (g := gb286) (o := .cells #[.string (⟨#[]⟩ : ByteArray), .int .i64 0] 42 (0, 0)) bk hg (Kd.R_ne HO_61.out BK286.out (by decide))); have n4_ := Aside0.mk ((by rw [hw]; exact below_set (HB.out) GB59.out : Below w.heap.size w w61)); clear HO_61; clear BK284; clear BK285; clear BK286; clear HB; have HO_61 := n0_; have BK284 := n1_; have BK285 := n2_; have BK286 := n3_; have HB := n4_; clear n0_ n1_ n2_ n3_ n4_; clear hg hw hp_))
             (try simp only [← hl61_2])
             go_roundg k2
             case measure => have := HJ30.out; have := HK2.out; omega
             case rel => exact ⟨(y296), (wrap64 (x64_2 + 1)), rz, H', ⟨by have := HJ30.out; have := HK2.out; omega⟩, ⟨by (try simp only [hl61_2]); (with_reducible repeat (first | apply Kd.R_alloc | apply Kd.R_drewN | apply Kd.R_drew)); exact HO_61.out⟩, ⟨by (try simp only [hl61_2]); (with_reducible repeat (first | refine blk_drewN ?_ _ | refine blk_drew ?_ | refine blk_alloc ?_ _)); exact BK284.out⟩, ⟨by (try simp only [hl61_2]); (with_reducible repeat (first | refine blk_drewN ?_ _ | refine blk_drew ?_ | refine blk_alloc ?_ _)); exact BK285.out⟩, ⟨by (try simp only [hl61_2]); (with_reducible repeat (first | refine blk_drewN ?_ _ | refine blk_drew ?_ | refine blk_alloc ?_ _)); exact BK286.out⟩, ⟨bz⟩⟩
            ·replace H := hN H c58
             exact absurd H (by simp)
           ·replace H := hN H c57
            exact absurd H (by simp)
          ·replace H := hN H c56
           have c56b0 := decide_eq_false c56
           (try (have c56b9 := c56b0; (first | rw [hl61_2] at c56b9); skip))
           clear c56
           have HC62 := Aside0.mk H
           clear H
           go_upto_region 17 with (fail)
           go_cut [] (fun wc => ∃ (kq : Nat) (x8_61 : List Int), Aside0 (bigdec_Add.j2 kq x8_61 x285000_30 x285001_30 x286000_30 x286001_30 = some (r1, r2, r3)) ∧ Aside0 (kq ≤ k2) ∧ Aside0 (Kd.R (Kd.int .u8) 5 wc w.heap.size (fun _ => True) (.slice Ao55 x61_2.length co55) x8_61) ∧ Aside0 (wc.heap[gb284]? = some (.cells #[.string x285000_30, .int .i64 x285001_30] 42 (0, 0))) ∧ Aside0 (wc.heap[gb285]? = some (.cells #[.string x286000_30, .int .i64 x286001_30] 42 (0, 0))) ∧ Aside0 (wc.heap[gb286]? = some (.cells #[.string (⟨#[]⟩ : ByteArray), .int .i64 0] 42 (0, 0))) ∧ Aside0 (Below w.heap.size w wc))
           case first =>
            have H := HC62.out
            clear HC62
            by_cases c63 : 1 ≤ (x61_2.length : Int)
            ·replace H := hE H c63
             have c63b0 := eq_true c63
             have c63b1 : decide (1 ≤ (x61_2.length : Int)) = true := decide_eq_true c63
             clear c63
             obtain ⟨y297, hy297⟩ : ∃ y_ : List Int, y_ = (x61_2.drop 1) := ⟨_, rfl⟩
             replace H : (if 2 ≤ (x61_2.length : Int) then (if x285000_30.size + 1 ≤ x61_2.length then (bigdec_Add.j2 k2 (cpyAt x61_2 1 x285000_30) x285000_30 x285001_30 x286000_30 x286001_30) else (none)) else (none)) = some (r1, r2, r3) := by first | (rw [hy297]; with_reducible exact H) | (have H2_ := (Option.bind_some _ _).symm.trans H; rw [hy297]; with_reducible exact H2_) | (have H2_ := (Option.bind_some _ _).symm.trans H; with_reducible exact H2_) | with_reducible exact H | (rw [hy297]; exact H) | exact H
             have Ny297 := Aside0.mk hy297
             clear hy297
             by_cases c64 : 2 ≤ (x61_2.length : Int)
             ·replace H := hE H c64
              have c64b0 := eq_true c64
              have c64b1 : decide (2 ≤ (x61_2.length : Int)) = true := decide_eq_true c64
              clear c64
              by_cases c65 : x285000_30.size + 1 ≤ x61_2.length
              ·replace H := hE H c65
               have c65b0 := eq_true c65
               have c65b1 : decide (x285000_30.size + 1 ≤ x61_2.length) = true := decide_eq_true c65
               obtain ⟨y301, hy301⟩ : ∃ y_ : List Int, y_ = (cpyAt x61_2 1 x285000_30) := ⟨_, rfl⟩
               replace H : (bigdec_Add.j2 k2 y301 x285000_30 x285001_30 x286000_30 x286001_30) = some (r1, r2, r3) := by first | (rw [hy301]; with_reducible exact H) | (have H2_ := (Option.bind_some _ _).symm.trans H; rw [hy301]; with_reducible exact H2_) | (have H2_ := (Option.bind_some _ _).symm.trans H; with_reducible exact H2_) | with_reducible exact H | (rw [hy301]; exact H) | exact H
               have Ny301 := Aside0.mk hy301
               clear hy301
               have H' := Aside0.mk H
               clear H
               have q67 : (1 : Int) ≤ ((x61_2.length : Int) : Int) := of_decide_eq_true (by first | (with_reducible assumption) | assumption)
               obtain ⟨i067, hi067, _, hsz67, _⟩ := info_parts info5
               have hroom67 : x61_2.length ≤ co55 := (Kd.R_reads' HO_61.out).2.1
               have hC67 : Kd.C (Kd.int .u8) _ Ao55 x61_2.length x61_2 := (Kd.R_reads' HO_61.out).2.2
               have hcut67 := cut_from (P := Tryz.prog) 51 5 .i64 Tryz.underlying51 hi067 1 hsz67 Ao55 x61_2.length co55 1 (by omega) q67
               have hr67 := Kd.C_drop (m := (1 : Int).toNat) (c := co55) hC67 (by omega) hroom67
               obtain ⟨A67, hA67⟩ : ∃ A1, A1 = (if co55 = (1 : Int).toNat then Ao55 else (Ao55 : Option Addr).map (·.add ((1 : Int).toNat * 1))) := ⟨_, rfl⟩
               obtain ⟨c67, hc67⟩ : ∃ c1, c1 = co55 - (1 : Int).toNat := ⟨_, rfl⟩
               have hy67 : y297.length = x61_2.length - (1 : Int).toNat := (by rw [Ny297.out, List.length_drop] <;> omega)
               rw [show (x61_2).drop (1 : Int).toNat = y297 from Ny297.out.symm] at hr67
               replace hr67 : Kd.C (Kd.int .u8) _ A67 y297.length y297 := (by rw [hA67]; exact hr67)
               rw [← hy67, ← hA67, ← hc67] at hcut67
               have HR300 := Aside0.mk hr67
               have HC300 := Aside0.mk (show y297.length ≤ c67 from by rw [hy67, hc67]; exact Nat.sub_le_sub_right hroom67 _)
               clear hr67 hC67 hroom67 hi067 hsz67 hc67
               have KY67 := Aside0.mk hy67
               have KA67 := Aside0.mk hA67
               clear hy67 hA67
               have KL67 := Aside0.mk (show 1 ≤ x61_2.length from by omega)
               replace q67 := eq_true q67
               have hnb68 := NB284_285.out
               have hnc68 := NB285_284.out
               have hnb69 := NB284_286.out
               have hnc69 := NB286_284.out
               obtain ⟨hcz70_0, hcz70_1, hfz70_0, hfz70_1⟩ := cz2 (W := wr) BK284
               have p66 : 0 ≤ (0 : Int) := (by omega)
               have q66 : (0 : Int) < ((x61_2.length : Int) : Int) := of_decide_eq_true (by first | (with_reducible assumption) | assumption)
               have qi66 : (0 < x61_2.length) = True := eq_true (by omega)
               obtain ⟨go66, co66, eo66, gb66, gl66, cl66, HG66⟩ := Kd.R_form HO_61.out (by omega)
               (first | cases eo66 | (injection eo66 with ea_ en_ ec_; (first | subst ea_ | (injection ea_ with ea_; subst ea_)); subst ec_; clear en_))
               have GB66 := Aside0.mk gb66
               have GG66 := Aside0.mk HG66
               clear gb66 gl66 HG66
               obtain ⟨hx66_0, hf66_0⟩ := Kd.R_celln 0 HO_61.out (0 : Int) p66 q66
               (try rw [show ((0 : Int)).toNat = 0 from rfl] at hx66_0)
               (try simp only [Nat.reduceMul, Nat.zero_mul, Nat.zero_add, Nat.reduceAdd] at hx66_0)
               (try rw [show ((0 : Int)).toNat = 0 from rfl] at hf66_0)
               (try simp only [Nat.reduceMul, Nat.zero_mul, Nat.zero_add, Nat.reduceAdd] at hf66_0)
               replace p66 := eq_true p66
               replace q66 := eq_true q66
               have HP71 := Kd.R_putg HO_61.out (0 : Int) 0
               have h2_ : 2 ≤ x61_2.length := by have h_ : (2 : Int) ≤ (x61_2.length : Int) := of_decide_eq_true (by assumption); omega
               have hfit_ : x285000_30.size + 1 ≤ x61_2.length := of_decide_eq_true (by assumption)
               have hA1_ : A67 = some ⟨go66, 1, none⟩ := by
                have h_ := KA67.out
                have hc_ := (Kd.R_reads' HO_61.out).2.1
                rw [if_neg (by simp; omega)] at h_
                rw [h_]; rfl
               have hyl_ := KY67.out
               have HA1_ := Aside0.mk hA1_
               clear hA1_
               have Hfit_ := Aside0.mk hfit_
               have Hyl_ := Aside0.mk hyl_
               clear hyl_ hfit_
               go_region_law ((try (rw [drewN_self wr]; generalize hq_ : World.drewN wr _ = wr; have n0_ := Aside0.mk (Kd.R_at hq_ HO_61.out); have n1_ := Aside0.mk (blk_at hq_ BK284.out); have n2_ := Aside0.mk (blk_at hq_ BK285.out); have n3_ := Aside0.mk (blk_at hq_ BK286.out); have n4_ := Aside0.mk (below_at hq_ HB.out); clear hq_ HO_61 BK284 BK285 BK286 HB; have HO_61 := n0_; have BK284 := n1_; have BK285 := n2_; have BK286 := n3_; have HB := n4_; clear n0_ n1_ n2_ n3_ n4_)); refine step_copyAt (w0 := w) rfl _ _ _ _ rfl 5 Tryz.underlying51 (by kernel_rfl) (g := go66) rfl HA1_.out x285000_30 rfl (by have h1_ := Hyl_.out; have h2_ := Hfit_.out; rw [h1_]; simp; omega) Hfit_.out HO_61.out bz ?_; intro w72 ho_ hg hb_; have hp_ : Kd.R (Kd.int .u8) 5 w72 w.heap.size (fun _ => True) (.slice (some ⟨go66, 0, none⟩) x61_2.length co55) y301 := (by rw [Ny301.out]; exact ho_); clear ho_; have n0_ := Aside0.mk (hp_); have n1_ := Aside0.mk (blk_grown (g := gb284) (o := .cells #[.string x285000_30, .int .i64 x285001_30] 42 (0, 0)) bk hg (Kd.R_ne HO_61.out BK284.out (by decide))); have n2_ := Aside0.mk (blk_grown (g := gb285) (o := .cells #[.string x286000_30, .int .i64 x286001_30] 42 (0, 0)) bk hg (Kd.R_ne HO_61.out BK285.out (by decide))); have n3_ := Aside0.mk (blk_grown (g := gb286) (o := .cells #[.string (⟨#[]⟩ : ByteArray), .int .i64 0] 42 (0, 0)) bk hg (Kd.R_ne HO_61.out BK286.out (by decide))); have n4_ := Aside0.mk ((hb_ : Below w.heap.size w w72)); clear HO_61; clear BK284; clear BK285; clear BK286; clear HB; have HO_61 := n0_; have BK284 := n1_; have BK285 := n2_; have BK286 := n3_; have HB := n4_; clear n0_ n1_ n2_ n3_ n4_; clear hg hb_ hp_)
               all_goals (try go_wp2)
               go_meet
               case rel => exact ⟨_, (y301), H', ⟨by have := HJ30.out; have := HK2.out; first | omega | exact Nat.le_refl _⟩, ⟨by (try simp only [hl61_2]); (with_reducible repeat (first | apply Kd.R_alloc | apply Kd.R_drewN | apply Kd.R_drew)); exact HO_61.out⟩, ⟨by (try simp only [hl61_2]); (with_reducible repeat (first | refine blk_drewN ?_ _ | refine blk_drew ?_ | refine blk_alloc ?_ _)); exact BK284.out⟩, ⟨by (try simp only [hl61_2]); (with_reducible repeat (first | refine blk_drewN ?_ _ | refine blk_drew ?_ | refine blk_alloc ?_ _)); exact BK285.out⟩, ⟨by (try simp only [hl61_2]); (with_reducible repeat (first | refine blk_drewN ?_ _ | refine blk_drew ?_ | refine blk_alloc ?_ _)); exact BK286.out⟩, ⟨bz⟩⟩
              ·replace H := hN H c65
               exact absurd H (by simp)
             ·replace H := hN H c64
              exact absurd H (by simp)
            ·replace H := hN H c63
             exact absurd H (by simp)
           case rest =>
            clear HC62
            try clear c1
            try clear c15
            try clear c15b0
            try clear c15b1
            try clear c16
            try clear c16b0
            try clear c16b1
            try clear c23
            try clear c23b0
            try clear c23b1
            try clear c38
            try clear c38b0
            try clear c46
            try clear c46b0
            try clear c46b1
            try clear c47
            try clear c47b0
            try clear c47b1
            try clear c56
            try clear c56b0
            try clear c57
            try clear c57b0
            try clear c58
            try clear c58b0
            try clear p59
            try clear q59
            try clear c63
            try clear c63b0
            try clear c63b1
            try clear c64
            try clear c64b0
            try clear c64b1
            try clear c65
            try clear c65b0
            try clear c65b1
            try clear p66
            try clear q66
            try clear qi66
            try clear c67
            try clear q67
            try clear hcz11_0 hcz11_1 hfz11_0 hfz11_1
            try clear hcz13_0 hcz13_1 hfz13_0 hfz13_1
            try clear hcz14_0 hcz14_1 hfz14_0 hfz14_1
            try clear hcz19_0 hcz19_1 hfz19_0 hfz19_1
            try clear hcz21_0 hcz21_1 hfz21_0 hfz21_1
            try clear hcz22_0 hcz22_1 hfz22_0 hfz22_1
            try clear hcz26_0 hcz26_1 hfz26_0 hfz26_1
            try clear hcz28_0 hcz28_1 hfz28_0 hfz28_1
            try clear hcz29_0 hcz29_1 hfz29_0 hfz29_1
            try clear hcz34_0 hcz34_1 hfz34_0 hfz34_1
            try clear hcz36_0 hcz36_1 hfz36_0 hfz36_1
            try clear hcz41_0 hcz41_1 hfz41_0 hfz41_1
            try clear hcz43_0 hcz43_1 hfz43_0 hfz43_1
            try clear hcz50_0 hcz50_1 hfz50_0 hfz50_1
            try clear hcz52_0 hcz52_1 hfz52_0 hfz52_1
            try clear hcz70_0 hcz70_1 hfz70_0 hfz70_1
            try clear hcz9_0 hcz9_1 hfz9_0 hfz9_1
            try clear hx59_0
            try clear hx66_0
            try clear p59
            try clear p66
            try clear q59
            try clear q66
            try clear q67
            obtain ⟨kq, x8_61, HA, HJ61, HO_8, BK284, BK285, BK286, HB⟩ := hcut
            have hl8_61 := (Kd.R_reads' HO_8.out).1
            rw [hl8_61] at HO_8
            (try simp only [hl8_61])
            (try simp only [hl8_61] at BK284)
            (try simp only [hl8_61] at BK285)
            (try simp only [hl8_61] at BK286)
            cases kq with
            | zero => exact absurd HA.out (by simp [bigdec_Add.j2])
            | succ kj61 =>
             have H := HA.out
             clear HA
             simp only [bigdec_Add.j2] at H
             have H' := Aside0.mk H
             clear H
             go_wp2
             go_loopg [10, 11] kj61 (fun kq v10 v11 w' => ∃ (x8_4 : List Int) (x10_4 : Int) (x11_4 : Int), v10 = .int .u8 x10_4 ∧ v11 = .int .i64 x11_4 ∧ Aside0 (bigdec_Add.l1 kq x8_4 x10_4 x11_4 x285000_30 x285001_30 x286000_30 x286001_30 = some (r1, r2, r3)) ∧ Aside0 (kq ≤ kj61) ∧ Aside0 (Kd.R (Kd.int .u8) 5 w' w.heap.size (fun _ => True) (.slice Ao55 x8_61.length co55) x8_4) ∧ Aside0 (w'.heap[gb284]? = some (.cells #[.string x285000_30, .int .i64 x285001_30] 42 (0, 0))) ∧ Aside0 (w'.heap[gb285]? = some (.cells #[.string x286000_30, .int .i64 x286001_30] 42 (0, 0))) ∧ Aside0 (w'.heap[gb286]? = some (.cells #[.string (⟨#[]⟩ : ByteArray), .int .i64 0] 42 (0, 0))) ∧ Aside0 (Below w.heap.size w w'))
             case atStart => exact ⟨(x8_61), (0), (wrap64 ((x8_61.length : Int) - 1)), rz, rz, H', ⟨Nat.le_refl _⟩, ⟨by (try simp only [hl61_2]); (try simp only [hl8_61]); (with_reducible repeat (first | apply Kd.R_alloc | apply Kd.R_drewN | apply Kd.R_drew)); exact HO_8.out⟩, ⟨by (try simp only [hl61_2]); (try simp only [hl8_61]); (with_reducible repeat (first | refine blk_drewN ?_ _ | refine blk_drew ?_ | refine blk_alloc ?_ _)); exact BK284.out⟩, ⟨by (try simp only [hl61_2]); (try simp only [hl8_61]); (with_reducible repeat (first | refine blk_drewN ?_ _ | refine blk_drew ?_ | refine blk_alloc ?_ _)); exact BK285.out⟩, ⟨by (try simp only [hl61_2]); (try simp only [hl8_61]); (with_reducible repeat (first | refine blk_drewN ?_ _ | refine blk_drew ?_ | refine blk_alloc ?_ _)); exact BK286.out⟩, ⟨bz⟩⟩
             case round =>
              clear H'
              try clear c1
              try clear c15
              try clear c15b0
              try clear c15b1
              try clear c16
              try clear c16b0
              try clear c16b1
              try clear c23
              try clear c23b0
              try clear c23b1
              try clear c38
              try clear c38b0
              try clear c46
              try clear c46b0
              try clear c46b1
              try clear c47
              try clear c47b0
              try clear c47b1
              try clear c56
              try clear c56b0
              try clear c57
              try clear c57b0
              try clear c58
              try clear c58b0
              try clear p59
              try clear q59
              try clear c63
              try clear c63b0
              try clear c63b1
              try clear c64
              try clear c64b0
              try clear c64b1
              try clear c65
              try clear c65b0
              try clear c65b1
              try clear p66
              try clear q66
              try clear qi66
              try clear c67
              try clear q67
              try clear hcz11_0 hcz11_1 hfz11_0 hfz11_1
              try clear hcz13_0 hcz13_1 hfz13_0 hfz13_1
              try clear hcz14_0 hcz14_1 hfz14_0 hfz14_1
              try clear hcz19_0 hcz19_1 hfz19_0 hfz19_1
              try clear hcz21_0 hcz21_1 hfz21_0 hfz21_1
              try clear hcz22_0 hcz22_1 hfz22_0 hfz22_1
              try clear hcz26_0 hcz26_1 hfz26_0 hfz26_1
              try clear hcz28_0 hcz28_1 hfz28_0 hfz28_1
              try clear hcz29_0 hcz29_1 hfz29_0 hfz29_1
              try clear hcz34_0 hcz34_1 hfz34_0 hfz34_1
              try clear hcz36_0 hcz36_1 hfz36_0 hfz36_1
              try clear hcz41_0 hcz41_1 hfz41_0 hfz41_1
              try clear hcz43_0 hcz43_1 hfz43_0 hfz43_1
              try clear hcz50_0 hcz50_1 hfz50_0 hfz50_1
              try clear hcz52_0 hcz52_1 hfz52_0 hfz52_1
              try clear hcz70_0 hcz70_1 hfz70_0 hfz70_1
              try clear hcz9_0 hcz9_1 hfz9_0 hfz9_1
              try clear hx59_0
              try clear hx66_0
              try clear p59
              try clear p66
              try clear q59
              try clear q66
              try clear q67
              obtain ⟨x8_4, x10_4, x11_4, rfl, rfl, HA, HK4, HO_8, BK284, BK285, BK286, HB⟩ := hrel
              have hl8_4 := (Kd.R_reads' HO_8.out).1
              rw [hl8_4] at HO_8
              (try simp only [hl8_4])
              (try simp only [hl8_4] at BK284)
              (try simp only [hl8_4] at BK285)
              (try simp only [hl8_4] at BK286)
              cases gk with
              | zero => exact absurd HA.out (by simp [bigdec_Add.l1])
              | succ k4 =>
               have H := HA.out
               clear HA
               simp only [bigdec_Add.l1] at H
               by_cases c73 : x11_4 ≥ 0
               ·replace H := hE H c73
                have c73b0 : decide (0 ≤ x11_4) = true := decide_eq_true c73
                clear c73
                by_cases c74 : 0 ≤ x11_4
                ·replace H := hE H c74
                 have c74b0 := decide_eq_true c74
                 clear c74
                 by_cases c75 : x11_4 < (x8_4.length : Int)
                 ·replace H := hE H c75
                  have c75b0 := decide_eq_true c75
                  (try (have c75b9 := c75b0; (first | rw [hl8_4] at c75b9 | rw [hl8_61] at c75b9 | rw [hl61_2] at c75b9); skip))
                  clear c75
                  by_cases c76 : (wrap64 ((wrap64 (x11_4 - 1)) - (wrap64 (x285001_30 - x286001_30)))) ≥ 0
                  ·replace H := hE H c76
                   have c76b0 : decide (0 ≤ (wrap64 ((wrap64 (x11_4 - 1)) - (wrap64 (x285001_30 - x286001_30))))) = true := decide_eq_true c76
                   clear c76
                   by_cases c77 : (wrap64 ((wrap64 (x11_4 - 1)) - (wrap64 (x285001_30 - x286001_30)))) < (x286000_30.size : Int)
                   ·replace H := hE H c77
                    have c77b0 := decide_eq_true c77
                    clear c77
                    obtain ⟨ji78, hji78⟩ : ∃ j_ : Int, (wrap64 ((wrap64 (x11_4 - 1)) - (wrap64 (x285001_30 - x286001_30)))) = j_ := ⟨_, rfl⟩
                    (first | rw [hji78] at H | simp only [hji78] at H)
                    (try rw [hji78] at c76b0)
                    (try rw [hji78] at c77b0)
                    have hji78w : (IntKind.i64.wrap ((wrap64 (x11_4 - 1)) - (wrap64 (x285001_30 - x286001_30)))) = ji78 := (i64_w _).trans hji78
                    by_cases c79 : 0 ≤ (ji78)
                    ·replace H := hE H c79
                     have c79b0 := decide_eq_true c79
                     clear c79
                     obtain ⟨y303, hy303⟩ : ∃ y_ : List Int, y_ = (x8_4.set (x11_4 : Int).toNat (48 + ((((((((rd x8_4 x11_4) - 48) % 256) + x10_4) % 256) + (((bt x286000_30 (ji78)) - 48) % 256)) % 256) % 10))) := ⟨_, rfl⟩
                     replace H : (bigdec_Add.l1 k4 y303 ((((((((rd x8_4 x11_4) - 48) % 256) + x10_4) % 256) + (((bt x286000_30 (ji78)) - 48) % 256)) % 256) / 10) (wrap64 (x11_4 - 1)) x285000_30 x285001_30 x286000_30 x286001_30) = some (r1, r2, r3) := by first | (rw [hy303]; with_reducible exact H) | (have H2_ := (Option.bind_some _ _).symm.trans H; rw [hy303]; with_reducible exact H2_) | (have H2_ := (Option.bind_some _ _).symm.trans H; with_reducible exact H2_) | with_reducible exact H | (rw [hy303]; exact H) | exact H
                     have Ny303 := Aside0.mk hy303
                     clear hy303
                     have H' := Aside0.mk H
                     clear H
                     have p302 : 0 ≤ (x11_4 : Int) := of_decide_eq_true (by first | (with_reducible assumption) | assumption)
                     have q302 : x11_4 < (x8_4.length : Int) := of_decide_eq_true (by first | (with_reducible assumption) | assumption)
                     obtain ⟨ad302, e302, hx302_0⟩ := Kd.at_int (Kd.R_reads' HO_8.out).2.2 x11_4 p302 q302
                     cases e302
                     replace p302 := eq_true p302
                     replace q302 := eq_true q302
                     have hnb82 := NB284_285.out
                     have hnc82 := NB285_284.out
                     have hnb83 := NB284_286.out
                     have hnc83 := NB286_284.out
                     obtain ⟨hcz84_0, hcz84_1, hfz84_0, hfz84_1⟩ := cz2 (W := wr) BK284
                     have hnb85 := NB285_286.out
                     have hnc85 := NB286_285.out
                     obtain ⟨hcz86_0, hcz86_1, hfz86_0, hfz86_1⟩ := cz2 (W := wr) BK285
                     have p80 : 0 ≤ ((ji78) : Int) := of_decide_eq_true (by first | (with_reducible assumption) | assumption)
                     have q80 : (ji78) < (x286000_30.size : Int) := of_decide_eq_true (by first | (with_reducible assumption) | assumption)
                     have hx80 := bt_at x286000_30 (ji78)
                     replace p80 := eq_true p80
                     replace q80 := eq_true q80
                     have p81 : 0 ≤ (x11_4 : Int) := of_decide_eq_true (by first | (with_reducible assumption) | assumption)
                     have q81 : (x11_4 : Int) < ((x8_4.length : Int) : Int) := of_decide_eq_true (by first | (with_reducible assumption) | assumption)
                     obtain ⟨go81, co81, eo81, gb81, gl81, cl81, HG81⟩ := Kd.R_form HO_8.out (by omega)
                     (first | cases eo81 | (injection eo81 with ea_ en_ ec_; (first | subst ea_ | (injection ea_ with ea_; subst ea_)); subst ec_; clear en_))
                     have GB81 := Aside0.mk gb81
                     have GG81 := Aside0.mk HG81
                     clear gb81 gl81 HG81
                     (first | simp only [add_plain] at hx302_0 | skip)
                     obtain ⟨hx81_0, hf81_0⟩ := Kd.R_celln 0 HO_8.out (x11_4 : Int) p81 q81
                     replace p81 := eq_true p81
                     replace q81 := eq_true q81
                     have HP87 := Kd.R_putg HO_8.out (x11_4 : Int) (48 + ((((((((rd x8_4 x11_4) - 48) % 256) + x10_4) % 256) + (((bt x286000_30 (ji78)) - 48) % 256)) % 256) % 10))
                     go_wp2_with (first | ((with_reducible refine gate_store (t := 5) (p := 121) rfl ?_); (try (rw [drewN_self wr]; generalize hq_ : World.drewN wr _ = wr; have n0_ := Aside0.mk (Kd.R_at hq_ HO_8.out); have n1_ := Aside0.mk (blk_at hq_ BK284.out); have n2_ := Aside0.mk (blk_at hq_ BK285.out); have n3_ := Aside0.mk (blk_at hq_ BK286.out); have n4_ := Aside0.mk (below_at hq_ HB.out); clear hq_ HO_8 BK284 BK285 BK286 HB; have HO_8 := n0_; have BK284 := n1_; have BK285 := n2_; have BK286 := n3_; have HB := n4_; clear n0_ n1_ n2_ n3_ n4_; (try (have HP87 := Kd.R_putg HO_8.out (x11_4 : Int) (48 + ((((((((rd x8_4 x11_4) - 48) % 256) + x10_4) % 256) + (((bt x286000_30 (ji78)) - 48) % 256)) % 256) % 10)))))); refine store_event (t := 5) (p := 121) (v := ?vo_w88) (w1 := (wr.setCell ⟨go81, (x11_4 : Int).toNat, none⟩ (.int .u8 (48 + ((((((((rd x8_4 x11_4) - 48) % 256) + x10_4) % 256) + (((bt x286000_30 (ji78)) - 48) % 256)) % 256) % 10))))) ?hg ?ho ?hn ?hr ?_; (case ho => rfl); (case hg => rfl); (case hn => rfl); (case hr => first | (go_simp; done) | (go_simp; rfl)); intro w88 hw; have hg : wr.grownBy w88 (some go81) := (by rw [hw]; exact HP87.2); have hp_ : Kd.R (Kd.int .u8) 5 w88 w.heap.size (fun _ => True) (.slice (some ⟨go81, 0, none⟩) x8_4.length co55) y303 := (by rw [hw, Ny303.out]; exact HP87.1); clear HP87; have n0_ := Aside0.mk (hp_); have n1_ := Aside0.mk (blk_grown (g := gb284) (o := .cells #[.string x285000_30, .int .i64 x285001_30] 42 (0, 0)) bk hg (Kd.R_ne HO_8.out BK284.out (by decide))); have n2_ := Aside0.mk (blk_grown (g := gb285) (o := .cells #[.string x286000_30, .int .i64 x286001_30] 42 (0, 0)) bk hg (Kd.R_ne HO_8.out BK285.out (by decide))); have n3_ := Aside0.mk (blk_grown (g := gb286) (o := .cells #[.string (⟨#[]⟩ : ByteArray), .int .i64 0] 42 (0, 0)) bk hg (Kd.R_ne HO_8.out BK286.out (by decide))); have n4_ := Aside0.mk ((by rw [hw]; exact below_set (HB.out) GB81.out : Below w.heap.size w w88)); clear HO_8; clear BK284; clear BK285; clear BK286; clear HB; have HO_8 := n0_; have BK284 := n1_; have BK285 := n2_; have BK286 := n3_; have HB := n4_; clear n0_ n1_ n2_ n3_ n4_; clear hg hw hp_))
                     (try simp only [← hl8_4])
                     go_roundg k4
                     case measure => have := HJ30.out; have := HK2.out; have := HJ61.out; have := HK4.out; omega
                     case rel => exact ⟨(y303), ((((((((rd x8_4 x11_4) - 48) % 256) + x10_4) % 256) + (((bt x286000_30 (ji78)) - 48) % 256)) % 256) / 10), (wrap64 (x11_4 - 1)), (by first | rfl | (simp; done) | (simp only [← hji78] <;> (first | rfl | simp)) | (simp [*]; done)), rz, H', ⟨by have := HJ30.out; have := HK2.out; have := HJ61.out; have := HK4.out; omega⟩, ⟨by (try simp only [hl61_2]); (try simp only [hl8_61]); (try simp only [hl8_4]); (with_reducible repeat (first | apply Kd.R_alloc | apply Kd.R_drewN | apply Kd.R_drew)); exact HO_8.out⟩, ⟨by (try simp only [hl61_2]); (try simp only [hl8_61]); (try simp only [hl8_4]); (with_reducible repeat (first | refine blk_drewN ?_ _ | refine blk_drew ?_ | refine blk_alloc ?_ _)); exact BK284.out⟩, ⟨by (try simp only [hl61_2]); (try simp only [hl8_61]); (try simp only [hl8_4]); (with_reducible repeat (first | refine blk_drewN ?_ _ | refine blk_drew ?_ | refine blk_alloc ?_ _)); exact BK285.out⟩, ⟨by (try simp only [hl61_2]); (try simp only [hl8_61]); (try simp only [hl8_4]); (with_reducible repeat (first | refine blk_drewN ?_ _ | refine blk_drew ?_ | refine blk_alloc ?_ _)); exact BK286.out⟩, ⟨bz⟩⟩
                    ·replace H := hN H c79
                     exact absurd H (by simp)
                   ·replace H := hN H c77
                    have c77b0 := decide_eq_false c77
                    clear c77
                    obtain ⟨y304, hy304⟩ : ∃ y_ : List Int, y_ = (x8_4.set (x11_4 : Int).toNat (48 + ((((((rd x8_4 x11_4) - 48) % 256) + x10_4) % 256) % 10))) := ⟨_, rfl⟩
                    replace H : (bigdec_Add.l1 k4 y304 ((((((rd x8_4 x11_4) - 48) % 256) + x10_4) % 256) / 10) (wrap64 (x11_4 - 1)) x285000_30 x285001_30 x286000_30 x286001_30) = some (r1, r2, r3) := by first | (rw [hy304]; with_reducible exact H) | (have H2_ := (Option.bind_some _ _).symm.trans H; rw [hy304]; with_reducible exact H2_) | (have H2_ := (Option.bind_some _ _).symm.trans H; with_reducible exact H2_) | with_reducible exact H | (rw [hy304]; exact H) | exact H
                    have Ny304 := Aside0.mk hy304
                    clear hy304
                    have H' := Aside0.mk H
                    clear H
                    have p302 : 0 ≤ (x11_4 : Int) := of_decide_eq_true (by first | (with_reducible assumption) | assumption)
                    have q302 : x11_4 < (x8_4.length : Int) := of_decide_eq_true (by first | (with_reducible assumption) | assumption)
                    obtain ⟨ad302, e302, hx302_0⟩ := Kd.at_int (Kd.R_reads' HO_8.out).2.2 x11_4 p302 q302
                    cases e302
                    replace p302 := eq_true p302
                    replace q302 := eq_true q302
                    have hnb90 := NB284_285.out
                    have hnc90 := NB285_284.out
                    have hnb91 := NB284_286.out
                    have hnc91 := NB286_284.out
                    obtain ⟨hcz92_0, hcz92_1, hfz92_0, hfz92_1⟩ := cz2 (W := wr) BK284
                    have hnb93 := NB285_286.out
                    have hnc93 := NB286_285.out
                    obtain ⟨hcz94_0, hcz94_1, hfz94_0, hfz94_1⟩ := cz2 (W := wr) BK285
                    have p89 : 0 ≤ (x11_4 : Int) := of_decide_eq_true (by first | (with_reducible assumption) | assumption)
                    have q89 : (x11_4 : Int) < ((x8_4.length : Int) : Int) := of_decide_eq_true (by first | (with_reducible assumption) | assumption)
                    obtain ⟨go89, co89, eo89, gb89, gl89, cl89, HG89⟩ := Kd.R_form HO_8.out (by omega)
                    (first | cases eo89 | (injection eo89 with ea_ en_ ec_; (first | subst ea_ | (injection ea_ with ea_; subst ea_)); subst ec_; clear en_))
                    have GB89 := Aside0.mk gb89
                    have GG89 := Aside0.mk HG89
                    clear gb89 gl89 HG89
                    (first | simp only [add_plain] at hx302_0 | skip)
                    obtain ⟨hx89_0, hf89_0⟩ := Kd.R_celln 0 HO_8.out (x11_4 : Int) p89 q89
                    replace p89 := eq_true p89
                    replace q89 := eq_true q89
                    have HP95 := Kd.R_putg HO_8.out (x11_4 : Int) (48 + ((((((rd x8_4 x11_4) - 48) % 256) + x10_4) % 256) % 10))
                    go_wp2_with (first | ((with_reducible refine gate_store (t := 5) (p := 121) rfl ?_); (try (rw [drewN_self wr]; generalize hq_ : World.drewN wr _ = wr; have n0_ := Aside0.mk (Kd.R_at hq_ HO_8.out); have n1_ := Aside0.mk (blk_at hq_ BK284.out); have n2_ := Aside0.mk (blk_at hq_ BK285.out); have n3_ := Aside0.mk (blk_at hq_ BK286.out); have n4_ := Aside0.mk (below_at hq_ HB.out); clear hq_ HO_8 BK284 BK285 BK286 HB; have HO_8 := n0_; have BK284 := n1_; have BK285 := n2_; have BK286 := n3_; have HB := n4_; clear n0_ n1_ n2_ n3_ n4_; (try (have HP95 := Kd.R_putg HO_8.out (x11_4 : Int) (48 + ((((((rd x8_4 x11_4) - 48) % 256) + x10_4) % 256) % 10)))))); refine store_event (t := 5) (p := 121) (v := ?vo_w96) (w1 := (wr.setCell ⟨go89, (x11_4 : Int).toNat, none⟩ (.int .u8 (48 + ((((((rd x8_4 x11_4) - 48) % 256) + x10_4) % 256) % 10))))) ?hg ?ho ?hn ?hr ?_; (case ho => rfl); (case hg => rfl); (case hn => rfl); (case hr => first | (go_simp; done) | (go_simp; rfl)); intro w96 hw; have hg : wr.grownBy w96 (some go89) := (by rw [hw]; exact HP95.2); have hp_ : Kd.R (Kd.int .u8) 5 w96 w.heap.size (fun _ => True) (.slice (some ⟨go89, 0, none⟩) x8_4.length co55) y304 := (by rw [hw, Ny304.out]; exact HP95.1); clear HP95; have n0_ := Aside0.mk (hp_); have n1_ := Aside0.mk (blk_grown (g := gb284) (o := .cells #[.string x285000_30, .int .i64 x285001_30] 42 (0, 0)) bk hg (Kd.R_ne HO_8.out BK284.out (by decide))); have n2_ := Aside0.mk (blk_grown (g := gb285) (o := .cells #[.string x286000_30, .int .i64 x286001_30] 42 (0, 0)) bk hg (Kd.R_ne HO_8.out BK285.out (by decide))); have n3_ := Aside0.mk (blk_grown (g := gb286) (o := .cells #[.string (⟨#[]⟩ : ByteArray), .int .i64 0] 42 (0, 0)) bk hg (Kd.R_ne HO_8.out BK286.out (by decide))); have n4_ := Aside0.mk ((by rw [hw]; exact below_set (HB.out) GB89.out : Below w.heap.size w w96)); clear HO_8; clear BK284; clear BK285; clear BK286; clear HB; have HO_8 := n0_; have BK284 := n1_; have BK285 := n2_; have BK286 := n3_; have HB := n4_; clear n0_ n1_ n2_ n3_ n4_; clear hg hw hp_))
                    (try simp only [← hl8_4])
                    go_roundg k4
                    case measure => have := HJ30.out; have := HK2.out; have := HJ61.out; have := HK4.out; omega
                    case rel => exact ⟨(y304), ((((((rd x8_4 x11_4) - 48) % 256) + x10_4) % 256) / 10), (wrap64 (x11_4 - 1)), rz, rz, H', ⟨by have := HJ30.out; have := HK2.out; have := HJ61.out; have := HK4.out; omega⟩, ⟨by (try simp only [hl61_2]); (try simp only [hl8_61]); (try simp only [hl8_4]); (with_reducible repeat (first | apply Kd.R_alloc | apply Kd.R_drewN | apply Kd.R_drew)); exact HO_8.out⟩, ⟨by (try simp only [hl61_2]); (try simp only [hl8_61]); (try simp only [hl8_4]); (with_reducible repeat (first | refine blk_drewN ?_ _ | refine blk_drew ?_ | refine blk_alloc ?_ _)); exact BK284.out⟩, ⟨by (try simp only [hl61_2]); (try simp only [hl8_61]); (try simp only [hl8_4]); (with_reducible repeat (first | refine blk_drewN ?_ _ | refine blk_drew ?_ | refine blk_alloc ?_ _)); exact BK285.out⟩, ⟨by (try simp only [hl61_2]); (try simp only [hl8_61]); (try simp only [hl8_4]); (with_reducible repeat (first | refine blk_drewN ?_ _ | refine blk_drew ?_ | refine blk_alloc ?_ _)); exact BK286.out⟩, ⟨bz⟩⟩
                  ·replace H := hN H c76
                   have c76b0 : decide (0 ≤ (wrap64 ((wrap64 (x11_4 - 1)) - (wrap64 (x285001_30 - x286001_30))))) = false := decide_eq_false c76
                   clear c76
                   obtain ⟨y305, hy305⟩ : ∃ y_ : List Int, y_ = (x8_4.set (x11_4 : Int).toNat (48 + ((((((rd x8_4 x11_4) - 48) % 256) + x10_4) % 256) % 10))) := ⟨_, rfl⟩
                   replace H : (bigdec_Add.l1 k4 y305 ((((((rd x8_4 x11_4) - 48) % 256) + x10_4) % 256) / 10) (wrap64 (x11_4 - 1)) x285000_30 x285001_30 x286000_30 x286001_30) = some (r1, r2, r3) := by first | (rw [hy305]; with_reducible exact H) | (have H2_ := (Option.bind_some _ _).symm.trans H; rw [hy305]; with_reducible exact H2_) | (have H2_ := (Option.bind_some _ _).symm.trans H; with_reducible exact H2_) | with_reducible exact H | (rw [hy305]; exact H) | exact H
                   have Ny305 := Aside0.mk hy305
                   clear hy305
                   have H' := Aside0.mk H
                   clear H
                   have p302 : 0 ≤ (x11_4 : Int) := of_decide_eq_true (by first | (with_reducible assumption) | assumption)
                   have q302 : x11_4 < (x8_4.length : Int) := of_decide_eq_true (by first | (with_reducible assumption) | assumption)
                   obtain ⟨ad302, e302, hx302_0⟩ := Kd.at_int (Kd.R_reads' HO_8.out).2.2 x11_4 p302 q302
                   cases e302
                   replace p302 := eq_true p302
                   replace q302 := eq_true q302
                   have hnb98 := NB284_285.out
                   have hnc98 := NB285_284.out
                   have hnb99 := NB284_286.out
                   have hnc99 := NB286_284.out
                   obtain ⟨hcz100_0, hcz100_1, hfz100_0, hfz100_1⟩ := cz2 (W := wr) BK284
                   have hnb101 := NB285_286.out
                   have hnc101 := NB286_285.out
                   obtain ⟨hcz102_0, hcz102_1, hfz102_0, hfz102_1⟩ := cz2 (W := wr) BK285
                   have p97 : 0 ≤ (x11_4 : Int) := of_decide_eq_true (by first | (with_reducible assumption) | assumption)
                   have q97 : (x11_4 : Int) < ((x8_4.length : Int) : Int) := of_decide_eq_true (by first | (with_reducible assumption) | assumption)
                   obtain ⟨go97, co97, eo97, gb97, gl97, cl97, HG97⟩ := Kd.R_form HO_8.out (by omega)
                   (first | cases eo97 | (injection eo97 with ea_ en_ ec_; (first | subst ea_ | (injection ea_ with ea_; subst ea_)); subst ec_; clear en_))
                   have GB97 := Aside0.mk gb97
                   have GG97 := Aside0.mk HG97
                   clear gb97 gl97 HG97
                   (first | simp only [add_plain] at hx302_0 | skip)
                   obtain ⟨hx97_0, hf97_0⟩ := Kd.R_celln 0 HO_8.out (x11_4 : Int) p97 q97
                   replace p97 := eq_true p97
                   replace q97 := eq_true q97
                   have HP103 := Kd.R_putg HO_8.out (x11_4 : Int) (48 + ((((((rd x8_4 x11_4) - 48) % 256) + x10_4) % 256) % 10))
                   go_wp2_with (first | ((with_reducible refine gate_store (t := 5) (p := 121) rfl ?_); (try (rw [drewN_self wr]; generalize hq_ : World.drewN wr _ = wr; have n0_ := Aside0.mk (Kd.R_at hq_ HO_8.out); have n1_ := Aside0.mk (blk_at hq_ BK284.out); have n2_ := Aside0.mk (blk_at hq_ BK285.out); have n3_ := Aside0.mk (blk_at hq_ BK286.out); have n4_ := Aside0.mk (below_at hq_ HB.out); clear hq_ HO_8 BK284 BK285 BK286 HB; have HO_8 := n0_; have BK284 := n1_; have BK285 := n2_; have BK286 := n3_; have HB := n4_; clear n0_ n1_ n2_ n3_ n4_; (try (have HP103 := Kd.R_putg HO_8.out (x11_4 : Int) (48 + ((((((rd x8_4 x11_4) - 48) % 256) + x10_4) % 256) % 10)))))); refine store_event (t := 5) (p := 121) (v := ?vo_w104) (w1 := (wr.setCell ⟨go97, (x11_4 : Int).toNat, none⟩ (.int .u8 (48 + ((((((rd x8_4 x11_4) - 48) % 256) + x10_4) % 256) % 10))))) ?hg ?ho ?hn ?hr ?_; (case ho => rfl); (case hg => rfl); (case hn => rfl); (case hr => first | (go_simp; done) | (go_simp; rfl)); intro w104 hw; have hg : wr.grownBy w104 (some go97) := (by rw [hw]; exact HP103.2); have hp_ : Kd.R (Kd.int .u8) 5 w104 w.heap.size (fun _ => True) (.slice (some ⟨go97, 0, none⟩) x8_4.length co55) y305 := (by rw [hw, Ny305.out]; exact HP103.1); clear HP103; have n0_ := Aside0.mk (hp_); have n1_ := Aside0.mk (blk_grown (g := gb284) (o := .cells #[.string x285000_30, .int .i64 x285001_30] 42 (0, 0)) bk hg (Kd.R_ne HO_8.out BK284.out (by decide))); have n2_ := Aside0.mk (blk_grown (g := gb285) (o := .cells #[.string x286000_30, .int .i64 x286001_30] 42 (0, 0)) bk hg (Kd.R_ne HO_8.out BK285.out (by decide))); have n3_ := Aside0.mk (blk_grown (g := gb286) (o := .cells #[.string (⟨#[]⟩ : ByteArray), .int .i64 0] 42 (0, 0)) bk hg (Kd.R_ne HO_8.out BK286.out (by decide))); have n4_ := Aside0.mk ((by rw [hw]; exact below_set (HB.out) GB97.out : Below w.heap.size w w104)); clear HO_8; clear BK284; clear BK285; clear BK286; clear HB; have HO_8 := n0_; have BK284 := n1_; have BK285 := n2_; have BK286 := n3_; have HB := n4_; clear n0_ n1_ n2_ n3_ n4_; clear hg hw hp_))
                   (try simp only [← hl8_4])
                   go_roundg k4
                   case measure => have := HJ30.out; have := HK2.out; have := HJ61.out; have := HK4.out; omega
                   case rel => exact ⟨(y305), ((((((rd x8_4 x11_4) - 48) % 256) + x10_4) % 256) / 10), (wrap64 (x11_4 - 1)), rz, rz, H', ⟨by have := HJ30.out; have := HK2.out; have := HJ61.out; have := HK4.out; omega⟩, ⟨by (try simp only [hl61_2]); (try simp only [hl8_61]); (try simp only [hl8_4]); (with_reducible repeat (first | apply Kd.R_alloc | apply Kd.R_drewN | apply Kd.R_drew)); exact HO_8.out⟩, ⟨by (try simp only [hl61_2]); (try simp only [hl8_61]); (try simp only [hl8_4]); (with_reducible repeat (first | refine blk_drewN ?_ _ | refine blk_drew ?_ | refine blk_alloc ?_ _)); exact BK284.out⟩, ⟨by (try simp only [hl61_2]); (try simp only [hl8_61]); (try simp only [hl8_4]); (with_reducible repeat (first | refine blk_drewN ?_ _ | refine blk_drew ?_ | refine blk_alloc ?_ _)); exact BK285.out⟩, ⟨by (try simp only [hl61_2]); (try simp only [hl8_61]); (try simp only [hl8_4]); (with_reducible repeat (first | refine blk_drewN ?_ _ | refine blk_drew ?_ | refine blk_alloc ?_ _)); exact BK286.out⟩, ⟨bz⟩⟩
                 ·replace H := hN H c75
                  exact absurd H (by simp)
                ·replace H := hN H c74
                 exact absurd H (by simp)
               ·replace H := hN H c73
                have c73b0 : decide (0 ≤ x11_4) = false := decide_eq_false c73
                clear c73
                replace H := bs H
                obtain ⟨⟨t306, t307⟩, A105, H⟩ := H
                dsimp only at H
                have hcv106 := own_string (P := Tryz.prog) Tryz.underlying51 Tryz.underlying5 Tryz.underlying9 (Kd.own_of_R HO_8.out)
                have hnb107 := NB284_285.out
                have hnc107 := NB285_284.out
                have hnb108 := NB284_286.out
                have hnc108 := NB286_284.out
                obtain ⟨hcz109_0, hcz109_1, hfz109_0, hfz109_1⟩ := cz2 (W := wr) BK284
                go_upto_if 132 with (first | (go_at_call 49; (with_reducible refine (bigdec_form.calls (strOfNums x8_4) (wrap64 (x285001_30 + 1)) t306 t307 _ A105.out).mono ?_); rintro e w110 ⟨rfl, hb⟩; have n0_ := Aside0.mk (Kd.R_below (by (with_reducible repeat (first | apply Kd.R_alloc | apply Kd.R_drewN | apply Kd.R_drew)); exact HO_8.out) hb); have n1_ := Aside0.mk (blk_below (g := gb284) (o := .cells #[.string x285000_30, .int .i64 x285001_30] 42 (0, 0)) bk hb); have n2_ := Aside0.mk (blk_below (g := gb285) (o := .cells #[.string x286000_30, .int .i64 x286001_30] 42 (0, 0)) bk hb); have n3_ := Aside0.mk (blk_below (g := gb286) (o := .cells #[.string (⟨#[]⟩ : ByteArray), .int .i64 0] 42 (0, 0)) bk hb); have n4_ := Aside0.mk (below_step bz hb); clear HO_8; clear BK284; clear BK285; clear BK286; clear HB; have HO_8 := n0_; have BK284 := n1_; have BK285 := n2_; have BK286 := n3_; have HB := n4_; clear n0_ n1_ n2_ n3_ n4_; (try clear hb); (try clear hb2); (try clear hk); (try clear hi)) | ((with_reducible refine gate_dst (N := 14) rfl ?_); (try (refine gate_guard (by rfl) ?_; dsimp only)); refine box_event rfl (N := 14) rfl (cs := #[.string (⟨#[]⟩ : ByteArray), .int .i64 0]) (t := 42) gz ?_; intro gb308 hg w111 hbox hb; have n0_ := Aside0.mk (Kd.R_below (by (with_reducible repeat (first | apply Kd.R_alloc | apply Kd.R_drewN | apply Kd.R_drew)); exact HO_8.out) hb); have n1_ := Aside0.mk (blk_below (g := gb284) (o := .cells #[.string x285000_30, .int .i64 x285001_30] 42 (0, 0)) bk hb); have n2_ := Aside0.mk (blk_below (g := gb285) (o := .cells #[.string x286000_30, .int .i64 x286001_30] 42 (0, 0)) bk hb); have n3_ := Aside0.mk (blk_below (g := gb286) (o := .cells #[.string (⟨#[]⟩ : ByteArray), .int .i64 0] 42 (0, 0)) bk hb); have n4_ := Aside0.mk (below_step bz hb); have n5_ := Aside0.mk (hbox); have n6_ := Aside0.mk ((by rw [hg]; exact (below_size bz) : w.heap.size ≤ gb308)); have n7_ := Aside0.mk ((by rw [hg]; exact (below_size bz) : w.heap.size ≤ gb308)); have n8_ := Aside0.mk ((by rw [hg]; exact Nat.ne_of_lt (blk_lt (g := gb284) (o := .cells #[.string x285000_30, .int .i64 x285001_30] 42 (0, 0)) bk) : gb284 ≠ gb308)); have n9_ := Aside0.mk ((by rw [hg]; exact Nat.ne_of_gt (blk_lt (g := gb284) (o := .cells #[.string x285000_30, .int .i64 x285001_30] 42 (0, 0)) bk) : gb308 ≠ gb284)); have n10_ := Aside0.mk ((by rw [hg]; exact Nat.ne_of_lt (blk_lt (g := gb285) (o := .cells #[.string x286000_30, .int .i64 x286001_30] 42 (0, 0)) bk) : gb285 ≠ gb308)); have n11_ := Aside0.mk ((by rw [hg]; exact Nat.ne_of_gt (blk_lt (g := gb285) (o := .cells #[.string x286000_30, .int .i64 x286001_30] 42 (0, 0)) bk) : gb308 ≠ gb285)); have n12_ := Aside0.mk ((by rw [hg]; exact Nat.ne_of_lt (blk_lt (g := gb286) (o := .cells #[.string (⟨#[]⟩ : ByteArray), .int .i64 0] 42 (0, 0)) bk) : gb286 ≠ gb308)); have n13_ := Aside0.mk ((by rw [hg]; exact Nat.ne_of_gt (blk_lt (g := gb286) (o := .cells #[.string (⟨#[]⟩ : ByteArray), .int .i64 0] 42 (0, 0)) bk) : gb308 ≠ gb286)); clear HO_8; clear BK284; clear BK285; clear BK286; clear HB; have HO_8 := n0_; have BK284 := n1_; have BK285 := n2_; have BK286 := n3_; have HB := n4_; have BK308 := n5_; have GW308 := n6_; have GE308 := n7_; have NB284_308 := n8_; have NB308_284 := n9_; have NB285_308 := n10_; have NB308_285 := n11_; have NB286_308 := n12_; have NB308_286 := n13_; clear n0_ n1_ n2_ n3_ n4_ n5_ n6_ n7_ n8_ n9_ n10_ n11_ n12_ n13_; clear hb hbox hg; have hnb112 := NB308_284.out; have hnc112 := NB284_308.out; have hnb113 := NB308_285.out; have hnc113 := NB285_308.out; have hnb114 := NB308_286.out; have hnc114 := NB286_308.out; obtain ⟨hcz115_0, hcz115_1, hfz115_0, hfz115_1⟩ := cz2 (W := w111) BK308))
                (try simp only [Act.put, List.setIfInBounds_toArray, List.set_cons_zero, List.set_cons_succ])
                by_cases c116 : (t306.size : Int) > 2000
                ·replace H := hE H c116
                 have c116b0 : decide (2000 < (t306.size : Int)) = true := decide_eq_true c116
                 have c116b1 : decide (2000 < t306.size) = true := decide_eq_true (by omega)
                 clear c116
                 try first | rw [c116b0] | rw [c116b1]
                 simp only [Option.some.injEq, Prod.mk.injEq] at H
                 obtain ⟨rfl, rfl, rfl⟩ := H
                 have hnb117 := NB286_284.out
                 have hnc117 := NB284_286.out
                 have hnb118 := NB286_285.out
                 have hnc118 := NB285_286.out
                 have hnb119 := NB286_308.out
                 have hnc119 := NB308_286.out
                 obtain ⟨hcz120_0, hcz120_1, hfz120_0, hfz120_1⟩ := cz2 (W := w111) BK286
                 go_wp2
                 refine bodyPost_ret (results_ct rfl _ _ gb286 42 #[.string (⟨#[]⟩ : ByteArray), .int .i64 0] (0, 0) _ rfl bk Tryz.underlying42 rfl (by kernel_rfl)) rfl ?_
                 exact ⟨by first | rfl | (simp [errW_none, errW_some] <;> rfl) | (simp only [← hji44, ← hji45]; first | rfl | (simp [errW_none, errW_some] <;> rfl)) | (simp [*, errW_none, errW_some] <;> rfl), bz⟩
                ·replace H := hN H c116
                 have c116b0 : decide (2000 < (t306.size : Int)) = false := decide_eq_false c116
                 have c116b1 : decide (2000 < t306.size) = false := decide_eq_false (by omega)
                 clear c116
                 try first | rw [c116b0] | rw [c116b1]
                 simp only [Option.some.injEq, Prod.mk.injEq] at H
                 obtain ⟨rfl, rfl, rfl⟩ := H
                 have hnb121 := NB308_284.out
                 have hnc121 := NB284_308.out
                 have hnb122 := NB308_285.out
                 have hnc122 := NB285_308.out
                 have hnb123 := NB308_286.out
                 have hnc123 := NB286_308.out
                 obtain ⟨hcz124_0, hcz124_1, hfz124_0, hfz124_1⟩ := cz2 (W := w111) BK308
                 have hnb125 := NB286_284.out
                 have hnc125 := NB284_286.out
                 have hnb126 := NB286_285.out
                 have hnc126 := NB285_286.out
                 obtain ⟨hcz127_0, hcz127_1, hfz127_0, hfz127_1⟩ := cz2 (W := w111) BK286
                 go_wp2
                 refine bodyPost_ret (results_ct rfl _ _ gb286 42 #[.string t306, .int .i64 t307] (0, 0) _ rfl bk Tryz.underlying42 rfl (by kernel_rfl)) rfl ?_
                 exact ⟨by first | rfl | (simp [errW_none, errW_some] <;> rfl) | (simp only [← hji44, ← hji45]; first | rfl | (simp [errW_none, errW_some] <;> rfl)) | (simp [*, errW_none, errW_some] <;> rfl), bz⟩
       ·replace H := hN H c47
        exact absurd H (by simp)
      ·replace H := hN H c46
       exact absurd H (by simp)
 ·replace H := hN H c15
  obtain ⟨c15b0, c15b1⟩ := eF c15
  try first | rw [c15b0] | rw [c15b1]
  simp only [Option.some.injEq, Prod.mk.injEq] at H
  obtain ⟨rfl, rfl, rfl⟩ := H
  have hnb128 := NB286_284.out
  have hnc128 := NB284_286.out
  have hnb129 := NB286_285.out
  have hnc129 := NB285_286.out
  obtain ⟨hcz130_0, hcz130_1, hfz130_0, hfz130_1⟩ := cz2 (W := w12) BK286
  go_wp2
  refine bodyPost_ret (results_ct rfl _ _ gb286 42 #[.string (⟨#[]⟩ : ByteArray), .int .i64 0] (0, 0) _ rfl bk Tryz.underlying42 rfl (by kernel_rfl)) rfl ?_
  exact ⟨ez, bz⟩
end Go.Proofs.YtecpgdfnamkfdaaGreatDoor.Fn
end
section
namespace Go.Proofs.YtecpgdfnamkfdaaGreatDoor.Fn
open Go.RowKit Go.Proofs.YtecpgdfnamkfdaaGreatDoorW.PrintWords
def Bts (w : World) (e : TypeId) (g : Nat) (xs : List Int) : Prop :=
  ∃ cur lo hi, w.heap[g]? = some (.cells cur e (lo, hi)) ∧ xs.length ≤ cur.size ∧ cur.size ≤ lo ∧ cur.toList.take xs.length = nums .u8 xs
theorem Bts.made (w : World) (e : TypeId) (s : ByteArray) : Bts (Lib.bytesWorld w e s) e w.heap.size (bytesOf s) := by
  have hb : s.size ≤ (Lib.bytesCells w e s).size := by
    unfold Lib.bytesCells
    rw [Array.size_append, Array.size_map]
    exact Nat.le_add_right _ _
  refine ⟨_, _, _, Lib.bytesWorld_at_new w e s, by rw [bytesOf_length]; exact hb, Nat.le_refl _, ?_⟩
  rw [bytesOf_length]
  unfold Lib.bytesCells
  rw [Array.toList_append, List.take_append_of_le_length (by rw [Array.length_toList, Array.size_map]; exact Nat.le_refl _), List.take_of_length_le (by rw [Array.length_toList, Array.size_map]; exact Nat.le_refl _)]
  simp [nums, bytesOf]
theorem Bts.cell {w : World} {e : TypeId} {g : Nat} {xs : List Int} (h : Bts w e g xs) (i : Nat) (hi : i < xs.length) : w.cell? ⟨g, i, none⟩ = some (.int .u8 (rd xs i)) := by
  obtain ⟨cur, lo, hi', hg, hl, _, ht⟩ := h
  rw [cell_of_row w g i cur e (lo, hi') hg]
  have h2 : (cur.toList.take xs.length)[i]? = (nums .u8 xs)[i]? := by rw [ht]
  rw [List.getElem?_take_of_lt hi, Array.getElem?_toList] at h2
  rw [h2]
  simp [nums, rd, List.getElem?_eq_getElem hi, List.getD_eq_getElem?_getD]
theorem Bts.free {w : World} {e : TypeId} {g : Nat} {xs : List Int} (h : Bts w e g xs) (i : Nat) (hi : i < xs.length) : w.frozen? ⟨g, i, none⟩ = false := by
  obtain ⟨cur, lo, hi', hg, hl, hlo, _⟩ := h
  simp [World.frozen?, hg]
  omega
theorem Bts.set {w : World} {e : TypeId} {g : Nat} {xs : List Int} (h : Bts w e g xs) (i : Nat) (y : Int) : Bts (w.setCell ⟨g, i, none⟩ (.int .u8 y)) e g (xs.set i y) := by
  obtain ⟨cur, lo, hi', hg, hl, hlo, ht⟩ := h
  refine ⟨cur.setIfInBounds i (.int .u8 y), lo, hi', ?_, by simpa using hl, by simpa using hlo, ?_⟩
  · have hlt : g < w.heap.size := (Array.getElem?_eq_some_iff.1 hg).1
    have hv : w.heap[g] = .cells cur e (lo, hi') := (Array.getElem?_eq_some_iff.1 hg).2
    unfold World.setCell
    rw [Array.getElem?_eq_getElem (by simpa using hlt), Array.getElem_modify]
    simp [hv]
  · rw [List.length_set, Array.toList_setIfInBounds, List.take_set, ht]
    simp [nums, List.map_set]
theorem Bts.text {P : Program} {w : World} {e src dst : TypeId} {g cap : Nat} {xs : List Int} (h : Bts w e g xs) (hs : P.underlying src = some (.slice e)) (he : P.underlying e = some (.int .u8)) (hd : P.underlying dst = some .string) :
    (convert src dst (.slice (some ⟨g, 0, none⟩) xs.length cap)).run P w = .ok (.string (strOfNums xs)) w :=
  run_convert_bytes_arg w src e hs he g 0 xs.length cap xs rfl (fun i hi => by
    have := h.cell i hi
    rw [Nat.zero_add]
    exact this) dst hd
end Go.Proofs.YtecpgdfnamkfdaaGreatDoor.Fn
end
section
namespace Go.Proofs.YtecpgdfnamkfdaaGreatDoor.Fn
open Go.RowKit Go.Proofs.YtecpgdfnamkfdaaGreatDoorW.PrintWords
set_option linter.unusedVariables false
set_option linter.unusedSimpArgs false
def upGo (xs : List Int) : Nat → List Int
  | 0 => 49 :: xs
  | j + 1 => if rd xs j < 57 then xs.set j (rd xs j + 1) else upGo (xs.set j 48) j
def bigdec_up.f (s : ByteArray) : Option ByteArray := if s.size ≤ 100000 then some (strOfNums (upGo (bytesOf s) s.size)) else none
theorem pos_set {xs : List Int} (h : ∀ x ∈ xs, 0 ≤ x) (j : Nat) (y : Int) (hy : 0 ≤ y) : ∀ x ∈ xs.set j y, 0 ≤ x := by
  intro x hx
  rcases List.mem_or_eq_of_mem_set hx with h1 | h1
  · exact h x h1
  · rw [h1]; exact hy
theorem pos_rd {xs : List Int} (h : ∀ x ∈ xs, 0 ≤ x) (i : Int) : 0 ≤ rd xs i := by
  unfold rd
  rw [List.getD_eq_getElem?_getD]
  cases hg : xs[i.toNat]? with
  | none => simp
  | some x => exact h x (List.mem_of_getElem? hg)
theorem one_ahead (xs : List Int) : (⟨#[49]⟩ : ByteArray) ++ strOfNums xs = strOfNums (49 :: xs) := by
  apply ByteArray.ext
  rw [ByteArray.data_append]
  simp [strOfNums]
set_option maxHeartbeats 4000000 in
set_option maxRecDepth 100000 in
theorem bigdec_up.calls (a0 r : ByteArray) (w : World) (h : bigdec_up.f a0 = some r) :
    Calls Tryz.prog 81 #[.string a0] w fun e w' => e = .returned (.string r) ∧ Below w.heap.size w w' := by
  unfold bigdec_up.f at h
  split at h
  case isFalse => cases h
  rename_i hsz
  obtain rfl := Option.some.inj h
  clear h
  have kc := fun W => print_bytes (P := Tryz.prog) 9 51 5 Tryz.underlying9 Tryz.underlying51 Tryz.underlying5 a0 W
  have HM := Aside0.mk (Bts.made w 5 a0)
  have HB := Aside0.mk (bytes_below (Below.refl w.heap.size w) (Nat.le_refl _) 5 a0)
  have hlen : (bytesOf a0).length = a0.size := bytesOf_length a0
  have hpos : ∀ x ∈ bytesOf a0, 0 ≤ x := by
    intro x hx
    simp only [bytesOf, List.mem_map] at hx
    obtain ⟨b, _, rfl⟩ := hx
    omega
  have HP := Aside0.mk hpos
  have HL := Aside0.mk hlen
  clear hpos hlen
  go_enter Tryz.func81, Tryz.ntmps81
  go_wp2
  clear kc
  generalize grownCap w a0.size 0 5 = cap
  generalize hW1 : Lib.bytesWorld w 5 a0 = w1 at HM HB ⊢
  clear hW1
  go_loopw [4] (fun i wr => ∃ (j : Nat) (xs : List Int), j ≤ a0.size ∧ i = .int .i64 ((j : Int) - 1) ∧ Aside0 (xs.length = a0.size) ∧ Aside0 (∀ x ∈ xs, 0 ≤ x) ∧ Aside0 (upGo xs j = upGo (bytesOf a0) a0.size) ∧ Aside0 (Bts wr 5 w.heap.size xs) ∧ Aside0 (Below w.heap.size w wr)) (fun i _ => (intOf i + 1).toNat)
  case atStart => exact ⟨a0.size, bytesOf a0, Nat.le_refl _, rfl, HL, HP, ⟨rfl⟩, HM, HB⟩
  case round =>
    obtain ⟨j, xs, hj, rfl, HL1, HP1, HU, HM1, HB1⟩ := hrel
    cases j with
    | zero =>
      have ht := HM1.out.text (P := Tryz.prog) (src := 51) (dst := 9) (cap := cap) Tryz.underlying51 Tryz.underlying5 Tryz.underlying9
      rw [HL1.out] at ht
      have hsz2 : 1 + (strOfNums xs).size ≤ 9223372036854775807 := by rw [strOfNums_size, HL1.out]; omega
      go_wp2
      go_ret
      refine ⟨?_, HB1.out⟩
      rw [one_ahead, ← HU.out]
      rfl
    | succ m =>
      have hm : m < a0.size := hj
      have hml : m < xs.length := by rw [HL1.out]; exact hm
      have hc := HM1.out.cell m hml
      have hf := HM1.out.free m hml
      have hx := pos_rd HP1.out (m : Int)
      rw [show (((m + 1 : Nat) : Int) - 1) = (m : Int) by omega]
      have HU' : Aside0 ((if rd xs m < 57 then xs.set m (rd xs m + 1) else upGo (xs.set m 48) m) = upGo (bytesOf a0) a0.size) := ⟨HU.out⟩
      by_cases hlt : rd xs m < 57
      · have hS := HM1.out.set m (rd xs m + 1)
        have HS := Aside0.mk hS
        have HU2 := Aside0.mk ((if_pos hlt).symm.trans HU'.out)
        clear hS HU'
        have ht := HS.out.text (P := Tryz.prog) (src := 51) (dst := 9) (cap := cap) Tryz.underlying51 Tryz.underlying5 Tryz.underlying9
        rw [List.length_set, HL1.out] at ht
        have HBB := Aside0.mk (below_set HB1.out (Nat.le_refl _) : Below w.heap.size w (wr.setCell ⟨w.heap.size, m, none⟩ (.int .u8 (rd xs m + 1))))
        generalize rd xs m = x at *
        clear HM1
        go_wp2
        go_ret
        refine ⟨?_, HBB.out⟩
        rw [HU2.out]
        rfl
      · have HU2 := Aside0.mk ((if_neg hlt).symm.trans HU'.out)
        clear HU'
        go_wp2
        go_roundw
        case rel => exact ⟨m, xs.set m 48, by omega, by go_num, ⟨by rw [List.length_set]; exact HL1.out⟩, ⟨pos_set HP1.out m 48 (by omega)⟩, HU2, ⟨HM1.out.set m 48⟩, ⟨below_set HB1.out (Nat.le_refl _)⟩⟩
        case measure => simp [intOf]
end Go.Proofs.YtecpgdfnamkfdaaGreatDoor.Fn
end
section
namespace Go.Proofs.YtecpgdfnamkfdaaGreatDoor.Fn
open Go.RowKit Go.Proofs.YtecpgdfnamkfdaaGreatDoorW.PrintWords Go.Proofs.YtecpgdfnamkfdaaGreatDoorW.PrintLast Go.Proofs.YtecpgdfnamkfdaaGreatDoorW.PrintMore
attribute [local go_sem] fnW_0 fnW_1 fnW_2 fnW_3 fnW_4 fnW_5 fnW_guard fnW_eql max2_int min2_int max_two min_two
set_option linter.unusedVariables false
set_option linter.unusedSimpArgs false
mutual
def bigdec_round.j0 : Nat → Int → ByteArray → ByteArray → Bool → ByteArray → Int → Option (ByteArray × Int)
 | 0, _, _, _, _, _, _ => none
 | k + 1, x1, x5, x6, x7, x184000, x184001 => if (Op.bytesLess x6.toList ([53] : List UInt8)) = true then (bigdec_round.j1 k x1 x5 true x184000 x184001) else (if x6.toList = ([53] : List UInt8) then (bigdec_round.j1 k x1 x5 (!x7) x184000 x184001) else (bigdec_round.j1 k x1 x5 false x184000 x184001))
def bigdec_round.j1 : Nat → Int → ByteArray → Bool → ByteArray → Int → Option (ByteArray × Int)
 | 0, _, _, _, _, _ => none
 | k + 1, x1, x5, x48, x184000, x184001 => if x48 = true then ((bigdec_form.f x5 x184001).bind fun bt185 => (some (bt185.1, bt185.2))) else ((bigdec_up.f x5).bind fun t187 => ((bigdec_form.f t187 (wrap64 ((wrap64 (x184001 + (t187.size : Int))) - x1))).bind fun bt188 => (some (bt188.1, bt188.2))))
end
def bigdec_round.f (k : Nat) (a0_0 : ByteArray) (a0_1 : Int) (a1 : Int) : Option (ByteArray × Int) := if a1 < 0 then (some ((⟨#[]⟩ : ByteArray), 0)) else (if a1 ≥ (a0_0.size : Int) then (some (a0_0, a0_1)) else (if 0 ≤ a1 then (if a1 ≤ (a0_0.size : Int) then (if a1 > 0 then (if 0 ≤ (wrap64 (a1 - 1)) then (if (wrap64 (a1 - 1)) < ((a0_0.extract 0 (a1 : Int).toNat).size : Int) then (bigdec_round.j0 k a1 (a0_0.extract 0 (a1 : Int).toNat) (a0_0.extract (a1 : Int).toNat a0_0.size) (((((bt (a0_0.extract 0 (a1 : Int).toNat) (wrap64 (a1 - 1))) - 48) % 256) % 2) == 1) a0_0 a0_1) else (none)) else (none)) else (bigdec_round.j0 k a1 (a0_0.extract 0 (a1 : Int).toNat) (a0_0.extract (a1 : Int).toNat a0_0.size) false a0_0 a0_1)) else (none)) else (none)))
set_option maxHeartbeats 8000000 in
set_option maxRecDepth 100000 in
theorem bigdec_round.calls (k : Nat) (a0_0 : ByteArray) (a0_1 : Int) (a1 : Int) (r1 : ByteArray) (r2 : Int) (w : World) (h : bigdec_round.f k a0_0 a0_1 a1 = some (r1, r2)) :
  Calls Tryz.prog 51 #[.agg #[.string a0_0, .int .i64 a0_1], .int .i64 a1] w fun e w' => e = .returned (.agg #[.string r1, .int .i64 r2]) ∧ Below w.heap.size w w' := by
 have hu42 := Tryz.underlying42
 have HB := Aside0.mk (Below.refl w.heap.size w)
 have H : (if a1 < 0 then (some ((⟨#[]⟩ : ByteArray), 0)) else (if a1 ≥ (a0_0.size : Int) then (some (a0_0, a0_1)) else (if 0 ≤ a1 then (if a1 ≤ (a0_0.size : Int) then (if a1 > 0 then (if 0 ≤ (wrap64 (a1 - 1)) then (if (wrap64 (a1 - 1)) < ((a0_0.extract 0 (a1 : Int).toNat).size : Int) then (bigdec_round.j0 k a1 (a0_0.extract 0 (a1 : Int).toNat) (a0_0.extract (a1 : Int).toNat a0_0.size) (((((bt (a0_0.extract 0 (a1 : Int).toNat) (wrap64 (a1 - 1))) - 48) % 256) % 2) == 1) a0_0 a0_1) else (none)) else (none)) else (bigdec_round.j0 k a1 (a0_0.extract 0 (a1 : Int).toNat) (a0_0.extract (a1 : Int).toNat a0_0.size) false a0_0 a0_1)) else (none)) else (none)))) = some (r1, r2) := h
 clear h
 go_enter Tryz.func51, Tryz.ntmps51
 go_upto_if 9 with (first | ((with_reducible refine gate_dst (N := 2) rfl ?_); refine box_event rfl (N := 2) rfl (cs := #[.string a0_0, .int .i64 a0_1]) (t := 42) gz ?_; intro gb183 hg w3 hbox hb; have GW183 := gN bz hg; have GE183 := gN bz hg; have BK183 := Aside0.mk hbox; replace HB := bN bz hb; clear hb hbox hg) | ((with_reducible refine gate_dst (N := 4) rfl ?_); refine box_event rfl (N := 4) rfl (cs := #[.string (⟨#[]⟩ : ByteArray), .int .i64 0]) (t := 42) gz ?_; intro gb184 hg w4 hbox hb; have GW184 := gN bz hg; have GE184 := gN bz hg; have NB183_184 := lN (g := gb183) (cs := #[.string a0_0, .int .i64 a0_1]) hg bk; have NB184_183 := rN (g := gb183) (cs := #[.string a0_0, .int .i64 a0_1]) hg bk; replace BK183 := kN (g := gb183) (cs := #[.string a0_0, .int .i64 a0_1]) hb bk; have BK184 := Aside0.mk hbox; replace HB := bN bz hb; clear hb hbox hg))
 repeat (go_quiet (first | ((with_reducible refine gate_dst (N := 2) rfl ?_); refine box_event rfl (N := 2) rfl (cs := #[.string a0_0, .int .i64 a0_1]) (t := 42) gz ?_; intro gb183 hg w3 hbox hb; have n0_ := Aside0.mk (below_step bz hb); have n1_ := Aside0.mk (hbox); have n2_ := Aside0.mk ((by rw [hg]; exact (below_size bz) : w.heap.size ≤ gb183)); have n3_ := Aside0.mk ((by rw [hg]; exact (below_size bz) : w.heap.size ≤ gb183)); clear HB; have HB := n0_; have BK183 := n1_; have GW183 := n2_; have GE183 := n3_; clear n0_ n1_ n2_ n3_; clear hb hbox hg) | ((with_reducible refine gate_dst (N := 4) rfl ?_); refine box_event rfl (N := 4) rfl (cs := #[.string (⟨#[]⟩ : ByteArray), .int .i64 0]) (t := 42) gz ?_; intro gb184 hg w4 hbox hb; have n0_ := Aside0.mk (blk_below (g := gb183) (o := .cells #[.string a0_0, .int .i64 a0_1] 42 (0, 0)) bk hb); have n1_ := Aside0.mk (below_step bz hb); have n2_ := Aside0.mk (hbox); have n3_ := Aside0.mk ((by rw [hg]; exact (below_size bz) : w.heap.size ≤ gb184)); have n4_ := Aside0.mk ((by rw [hg]; exact (below_size bz) : w.heap.size ≤ gb184)); have n5_ := Aside0.mk ((by rw [hg]; exact Nat.ne_of_lt (blk_lt (g := gb183) (o := .cells #[.string a0_0, .int .i64 a0_1] 42 (0, 0)) bk) : gb183 ≠ gb184)); have n6_ := Aside0.mk ((by rw [hg]; exact Nat.ne_of_gt (blk_lt (g := gb183) (o := .cells #[.string a0_0, .int .i64 a0_1] 42 (0, 0)) bk) : gb184 ≠ gb183)); clear BK183; clear HB; have BK183 := n0_; have HB := n1_; have BK184 := n2_; have GW184 := n3_; have GE184 := n4_; have NB183_184 := n5_; have NB184_183 := n6_; clear n0_ n1_ n2_ n3_ n4_ n5_ n6_; clear hb hbox hg)); go_upto_if 9 with (first | ((with_reducible refine gate_dst (N := 2) rfl ?_); refine box_event rfl (N := 2) rfl (cs := #[.string a0_0, .int .i64 a0_1]) (t := 42) gz ?_; intro gb183 hg w3 hbox hb; have n0_ := Aside0.mk (below_step bz hb); have n1_ := Aside0.mk (hbox); have n2_ := Aside0.mk ((by rw [hg]; exact (below_size bz) : w.heap.size ≤ gb183)); have n3_ := Aside0.mk ((by rw [hg]; exact (below_size bz) : w.heap.size ≤ gb183)); clear HB; have HB := n0_; have BK183 := n1_; have GW183 := n2_; have GE183 := n3_; clear n0_ n1_ n2_ n3_; clear hb hbox hg) | ((with_reducible refine gate_dst (N := 4) rfl ?_); refine box_event rfl (N := 4) rfl (cs := #[.string (⟨#[]⟩ : ByteArray), .int .i64 0]) (t := 42) gz ?_; intro gb184 hg w4 hbox hb; have n0_ := Aside0.mk (blk_below (g := gb183) (o := .cells #[.string a0_0, .int .i64 a0_1] 42 (0, 0)) bk hb); have n1_ := Aside0.mk (below_step bz hb); have n2_ := Aside0.mk (hbox); have n3_ := Aside0.mk ((by rw [hg]; exact (below_size bz) : w.heap.size ≤ gb184)); have n4_ := Aside0.mk ((by rw [hg]; exact (below_size bz) : w.heap.size ≤ gb184)); have n5_ := Aside0.mk ((by rw [hg]; exact Nat.ne_of_lt (blk_lt (g := gb183) (o := .cells #[.string a0_0, .int .i64 a0_1] 42 (0, 0)) bk) : gb183 ≠ gb184)); have n6_ := Aside0.mk ((by rw [hg]; exact Nat.ne_of_gt (blk_lt (g := gb183) (o := .cells #[.string a0_0, .int .i64 a0_1] 42 (0, 0)) bk) : gb184 ≠ gb183)); clear BK183; clear HB; have BK183 := n0_; have HB := n1_; have BK184 := n2_; have GW184 := n3_; have GE184 := n4_; have NB183_184 := n5_; have NB184_183 := n6_; clear n0_ n1_ n2_ n3_ n4_ n5_ n6_; clear hb hbox hg)))
 (try simp only [Act.put, List.setIfInBounds_toArray, List.set_cons_zero, List.set_cons_succ])
 by_cases c5 : a1 < 0
 ·replace H := hE H c5
  have c5b0 := decide_eq_true c5
  clear c5
  try rw [c5b0]
  simp only [Option.some.injEq, Prod.mk.injEq] at H
  obtain ⟨rfl, rfl⟩ := H
  have hnb6 := NB184_183.out
  have hnc6 := NB183_184.out
  obtain ⟨hcz7_0, hcz7_1, hfz7_0, hfz7_1⟩ := cz2 (W := w4) BK184
  go_wp2
  repeat (go_quiet (fail); try go_wp2)
  refine bodyPost_ret (results_cell_row rfl _ _ gb184 42 #[.string (⟨#[]⟩ : ByteArray), .int .i64 0] (0, 0) _ rfl bk Tryz.underlying42 rfl (by kernel_rfl)) rfl ?_
  exact ⟨ez, bz⟩
 ·replace H := hN H c5
  have c5b0 := decide_eq_false c5
  clear c5
  try rw [c5b0]
  by_cases c8 : a1 ≥ (a0_0.size : Int)
  ·replace H := hE H c8
   have c8b0 : decide ((a0_0.size : Int) ≤ a1) = true := decide_eq_true c8
   clear c8
   simp only [Option.some.injEq, Prod.mk.injEq] at H
   obtain ⟨rfl, rfl⟩ := H
   have hnb9 := NB183_184.out
   have hnc9 := NB184_183.out
   obtain ⟨hcz10_0, hcz10_1, hfz10_0, hfz10_1⟩ := cz2 (W := w4) BK183
   obtain ⟨hcz11_0, hcz11_1, hfz11_0, hfz11_1⟩ := cz2 (W := w4) BK184
   go_wp2
   repeat (go_quiet (fail); try go_wp2)
   refine bodyPost_ret (results_cell_row rfl _ _ gb184 42 #[.string a0_0, .int .i64 a0_1] (0, 0) _ rfl bk Tryz.underlying42 rfl (by kernel_rfl)) rfl ?_
   exact ⟨ez, bz⟩
  ·replace H := hN H c8
   have c8b0 : decide ((a0_0.size : Int) ≤ a1) = false := decide_eq_false c8
   clear c8
   by_cases c12 : 0 ≤ a1
   ·replace H := hE H c12
    have c12b0 := eq_true c12
    have c12b1 : decide (0 ≤ a1) = true := decide_eq_true c12
    clear c12
    by_cases c13 : a1 ≤ (a0_0.size : Int)
    ·replace H := hE H c13
     have c13b0 := eq_true c13
     have c13b1 : decide (a1 ≤ (a0_0.size : Int)) = true := decide_eq_true c13
     clear c13
     have c14b0 := eq_true (of_decide_eq_true (by first | (with_reducible assumption) | assumption) : 0 ≤ a1)
     have c15b0 := eq_true (of_decide_eq_true (by first | (with_reducible assumption) | assumption) : a1 ≤ (a0_0.size : Int))
     have HC16 := Aside0.mk H
     clear H
     have hnb17 := NB183_184.out
     have hnc17 := NB184_183.out
     obtain ⟨hcz18_0, hcz18_1, hfz18_0, hfz18_1⟩ := cz2 (W := w4) BK183
     go_upto_region 6 with (fail)
     repeat (go_quiet (fail); go_upto_region 6 with (fail))
     go_cut [7] (fun v7 wc => ∃ (kq : Nat) (x7_15 : Bool), v7 = .bool x7_15 ∧ Aside0 (bigdec_round.j0 kq a1 (a0_0.extract 0 (a1 : Int).toNat) (a0_0.extract (a1 : Int).toNat a0_0.size) x7_15 a0_0 a0_1 = some (r1, r2)) ∧ Aside0 (kq ≤ k) ∧ Aside0 (wc.heap[gb183]? = some (.cells #[.string a0_0, .int .i64 a0_1] 42 (0, 0))) ∧ Aside0 (wc.heap[gb184]? = some (.cells #[.string (⟨#[]⟩ : ByteArray), .int .i64 0] 42 (0, 0))) ∧ Aside0 (Below w.heap.size w wc))
     case first =>
      have H := HC16.out
      clear HC16
      by_cases c19 : a1 > 0
      ·replace H := hE H c19
       have c19b0 : decide (0 < a1) = true := decide_eq_true c19
       clear c19
       try rw [c19b0]
       obtain ⟨ji20, hji20⟩ : ∃ j_ : Int, (wrap64 (a1 - 1)) = j_ := ⟨_, rfl⟩
       (first | rw [hji20] at H | simp only [hji20] at H)
       have hji20w : (IntKind.i64.wrap (a1 - 1)) = ji20 := (i64_w _).trans hji20
       by_cases c21 : 0 ≤ (ji20)
       ·replace H := hE H c21
        have c21b0 := decide_eq_true c21
        clear c21
        by_cases c22 : (ji20) < ((a0_0.extract 0 (a1 : Int).toNat).size : Int)
        ·replace H := hE H c22
         have c22b0 := decide_eq_true c22
         have c22b7 : decide (ji20 < max a1 0) = true := decide_eq_true (by have h_ : (((a0_0).extract 0 (a1 : Int).toNat).size : Int) = max a1 0 := (by have hle_ : a1 ≤ (a0_0.size : Int) := of_decide_eq_true (by assumption); simp [ByteArray.size_extract]; omega); rw [← h_]; exact c22)
         have c22b8 : (ji20 < max a1 0) = True := eq_true (of_decide_eq_true c22b7)
         clear c22
         have H' := Aside0.mk H
         clear H
         have p23 : 0 ≤ ((ji20) : Int) := of_decide_eq_true (by first | (with_reducible assumption) | assumption)
         have q23 : (ji20) < ((a0_0.extract 0 (a1 : Int).toNat).size : Int) := of_decide_eq_true (by first | (with_reducible assumption) | assumption)
         have hx23 := bt_at (a0_0.extract 0 (a1 : Int).toNat) (ji20)
         replace p23 := eq_true p23
         replace q23 := eq_true q23
         go_wp2
         repeat (go_quiet (fail); try go_wp2)
         go_meet
         case rel => exact ⟨_, ((((((bt (a0_0.extract 0 (a1 : Int).toNat) (ji20)) - 48) % 256) % 2) == 1)), (by first | rfl | (simp; done) | (simp only [← hji20] <;> (first | rfl | simp)) | (simp [*]; done)), H', ⟨by first | omega | exact Nat.le_refl _⟩, ⟨bk⟩, ⟨bk⟩, ⟨bz⟩⟩
        ·replace H := hN H c22
         exact absurd H (by simp)
       ·replace H := hN H c21
        exact absurd H (by simp)
      ·replace H := hN H c19
       have c19b0 : decide (0 < a1) = false := decide_eq_false c19
       clear c19
       try rw [c19b0]
       have H' := Aside0.mk H
       clear H
       go_wp2
       repeat (go_quiet (fail); try go_wp2)
       go_meet
       case rel => exact ⟨_, (false), rz, H', ⟨by first | omega | exact Nat.le_refl _⟩, ⟨bk⟩, ⟨bk⟩, ⟨bz⟩⟩
     case rest =>
      clear HC16
      try clear c5
      try clear c5b0
      try clear c8
      try clear c8b0
      try clear c12
      try clear c12b0
      try clear c12b1
      try clear c13
      try clear c13b0
      try clear c13b1
      try clear c14b0
      try clear c15b0
      try clear c19
      try clear c19b0
      try clear c21
      try clear c21b0
      try clear c22
      try clear c22b0
      try clear p23
      try clear q23
      try clear hx23
      try clear hcz10_0 hcz10_1 hfz10_0 hfz10_1
      try clear hcz11_0 hcz11_1 hfz11_0 hfz11_1
      try clear hcz18_0 hcz18_1 hfz18_0 hfz18_1
      try clear hcz7_0 hcz7_1 hfz7_0 hfz7_1
      try clear p23
      try clear q23
      obtain ⟨kq, x7_15, rfl, HA, HJ15, BK183, BK184, HB⟩ := hcut
      cases kq with
      | zero => exact absurd HA.out (by simp [bigdec_round.j0])
      | succ kj15 =>
       have H := HA.out
       clear HA
       simp only [bigdec_round.j0] at H
       have HC24 := Aside0.mk H
       clear H
       go_upto_region 7 with (fail)
       repeat (go_quiet (fail); go_upto_region 7 with (fail))
       go_cut [48] (fun v48 wc => ∃ (kq : Nat) (x48_23 : Bool), v48 = .bool x48_23 ∧ Aside0 (bigdec_round.j1 kq a1 (a0_0.extract 0 (a1 : Int).toNat) x48_23 a0_0 a0_1 = some (r1, r2)) ∧ Aside0 (kq ≤ kj15) ∧ Aside0 (wc.heap[gb183]? = some (.cells #[.string a0_0, .int .i64 a0_1] 42 (0, 0))) ∧ Aside0 (wc.heap[gb184]? = some (.cells #[.string (⟨#[]⟩ : ByteArray), .int .i64 0] 42 (0, 0))) ∧ Aside0 (Below w.heap.size w wc))
       case first =>
        have H := HC24.out
        clear HC24
        by_cases c25 : (Op.bytesLess (a0_0.extract (a1 : Int).toNat a0_0.size).toList ([53] : List UInt8)) = true
        ·replace H := hE H c25
         have c25b0 : (Op.bytesLess (a0_0.extract (a1 : Int).toNat a0_0.size).toList ([53] : List UInt8)) = true := c25
         clear c25
         try rw [c25b0]
         have H' := Aside0.mk H
         clear H
         go_wp2
         repeat (go_quiet (fail); try go_wp2)
         go_meet
         case rel => exact ⟨_, (true), rz, H', ⟨by have := HJ15.out; first | omega | exact Nat.le_refl _⟩, ⟨bk⟩, ⟨bk⟩, ⟨bz⟩⟩
        ·replace H := hN H c25
         have c25b0 : (Op.bytesLess (a0_0.extract (a1 : Int).toNat a0_0.size).toList ([53] : List UInt8)) = false := by simpa using c25
         clear c25
         try rw [c25b0]
         by_cases c26 : (a0_0.extract (a1 : Int).toNat a0_0.size).toList = ([53] : List UInt8)
         ·replace H := hE H c26
          have c26b0 : ((a0_0.extract (a1 : Int).toNat a0_0.size).toList == ([53] : List UInt8)) = true := beq_iff_eq.mpr c26
          have c26b1 : ((a0_0.extract (a1 : Int).toNat a0_0.size).toList != ([53] : List UInt8)) = false := bne_eq_false_iff_eq.mpr c26
          clear c26
          have H' := Aside0.mk H
          clear H
          go_wp2
          repeat (go_quiet (fail); try go_wp2)
          go_meet
          case rel => exact ⟨_, (!x7_15), rz, H', ⟨by have := HJ15.out; first | omega | exact Nat.le_refl _⟩, ⟨bk⟩, ⟨bk⟩, ⟨bz⟩⟩
         ·replace H := hN H c26
          have c26b0 : ((a0_0.extract (a1 : Int).toNat a0_0.size).toList == ([53] : List UInt8)) = false := beq_eq_false_iff_ne.mpr c26
          have c26b1 : ((a0_0.extract (a1 : Int).toNat a0_0.size).toList != ([53] : List UInt8)) = true := bne_iff_ne.mpr c26
          have H' := Aside0.mk H
          clear H
          go_wp2
          repeat (go_quiet (fail); try go_wp2)
          go_meet
          case rel => exact ⟨_, (false), rz, H', ⟨by have := HJ15.out; first | omega | exact Nat.le_refl _⟩, ⟨bk⟩, ⟨bk⟩, ⟨bz⟩⟩
       case rest =>
        clear HC24
        try clear c5
        try clear c5b0
        try clear c8
        try clear c8b0
        try clear c12
        try clear c12b0
        try clear c12b1
        try clear c13
        try clear c13b0
        try clear c13b1
        try clear c14b0
        try clear c15b0
        try clear c19
        try clear c19b0
        try clear c21
        try clear c21b0
        try clear c22
        try clear c22b0
        try clear p23
        try clear q23
        try clear hx23
        try clear c25
        try clear c25b0
        try clear c26
        try clear c26b0
        try clear c26b1
        try clear hcz10_0 hcz10_1 hfz10_0 hfz10_1
        try clear hcz11_0 hcz11_1 hfz11_0 hfz11_1
        try clear hcz18_0 hcz18_1 hfz18_0 hfz18_1
        try clear hcz7_0 hcz7_1 hfz7_0 hfz7_1
        try clear p23
        try clear q23
        obtain ⟨kq, x48_23, rfl, HA, HJ23, BK183, BK184, HB⟩ := hcut
        cases kq with
        | zero => exact absurd HA.out (by simp [bigdec_round.j1])
        | succ kj23 =>
         have H := HA.out
         clear HA
         simp only [bigdec_round.j1] at H
         by_cases c27 : x48_23 = true
         ·subst c27
          replace H := hT H
          replace H := bs H
          obtain ⟨⟨t185, t186⟩, A28, H⟩ := H
          dsimp only at H
          simp only [Option.some.injEq, Prod.mk.injEq] at H
          obtain ⟨rfl, rfl⟩ := H
          have hnb29 := NB183_184.out
          have hnc29 := NB184_183.out
          obtain ⟨hcz30_0, hcz30_1, hfz30_0, hfz30_1⟩ := cz2 (W := wc) BK183
          go_wp2_with (first | (go_at_call 49; (with_reducible refine (bigdec_form.calls (a0_0.extract 0 (a1 : Int).toNat) a0_1 t185 t186 _ A28.out).mono ?_); rintro e w31 ⟨rfl, hb⟩; replace BK183 := kN (g := gb183) (cs := #[.string a0_0, .int .i64 a0_1]) hb bk; replace BK184 := kN (g := gb184) (cs := #[.string (⟨#[]⟩ : ByteArray), .int .i64 0]) hb bk; replace HB := bN bz hb; (try clear hb); (try clear hb2); (try clear hk); (try clear hi); obtain ⟨hcz32_0, hcz32_1, hfz32_0, hfz32_1⟩ := cz2 (W := w31) BK184))
          repeat (go_quiet (first | (go_at_call 49; (with_reducible refine (bigdec_form.calls (a0_0.extract 0 (a1 : Int).toNat) a0_1 t185 t186 _ A28.out).mono ?_); rintro e w31 ⟨rfl, hb⟩; have n0_ := Aside0.mk (blk_below (g := gb183) (o := .cells #[.string a0_0, .int .i64 a0_1] 42 (0, 0)) bk hb); have n1_ := Aside0.mk (blk_below (g := gb184) (o := .cells #[.string (⟨#[]⟩ : ByteArray), .int .i64 0] 42 (0, 0)) bk hb); have n2_ := Aside0.mk (below_step bz hb); clear BK183; clear BK184; clear HB; have BK183 := n0_; have BK184 := n1_; have HB := n2_; clear n0_ n1_ n2_; (try clear hb); (try clear hb2); (try clear hk); (try clear hi); obtain ⟨hcz32_0, hcz32_1, hfz32_0, hfz32_1⟩ := cz2 (W := w31) BK184)); try go_wp2_with (first | (go_at_call 49; (with_reducible refine (bigdec_form.calls (a0_0.extract 0 (a1 : Int).toNat) a0_1 t185 t186 _ A28.out).mono ?_); rintro e w31 ⟨rfl, hb⟩; have n0_ := Aside0.mk (blk_below (g := gb183) (o := .cells #[.string a0_0, .int .i64 a0_1] 42 (0, 0)) bk hb); have n1_ := Aside0.mk (blk_below (g := gb184) (o := .cells #[.string (⟨#[]⟩ : ByteArray), .int .i64 0] 42 (0, 0)) bk hb); have n2_ := Aside0.mk (below_step bz hb); clear BK183; clear BK184; clear HB; have BK183 := n0_; have BK184 := n1_; have HB := n2_; clear n0_ n1_ n2_; (try clear hb); (try clear hb2); (try clear hk); (try clear hi); obtain ⟨hcz32_0, hcz32_1, hfz32_0, hfz32_1⟩ := cz2 (W := w31) BK184)))
          refine bodyPost_ret (results_cell_row rfl _ _ gb184 42 #[.string t185, .int .i64 t186] (0, 0) _ rfl bk Tryz.underlying42 rfl (by kernel_rfl)) rfl ?_
          exact ⟨ez, bz⟩
         ·replace c27 := Bool.eq_false_iff.mpr c27
          subst c27
          replace H := hF H
          replace H := bs H
          obtain ⟨t187, A33, H⟩ := H
          replace H := bs H
          obtain ⟨⟨t188, t189⟩, A34, H⟩ := H
          dsimp only at H
          simp only [Option.some.injEq, Prod.mk.injEq] at H
          obtain ⟨rfl, rfl⟩ := H
          go_wp2_with (first | (go_at_call 81; (with_reducible refine (bigdec_up.calls (a0_0.extract 0 (a1 : Int).toNat) t187 _ A33.out).mono ?_); rintro e w35 ⟨rfl, hb⟩; replace BK183 := kN (g := gb183) (cs := #[.string a0_0, .int .i64 a0_1]) hb bk; replace BK184 := kN (g := gb184) (cs := #[.string (⟨#[]⟩ : ByteArray), .int .i64 0]) hb bk; replace HB := bN bz hb; (try clear hb); (try clear hb2); (try clear hk); (try clear hi); have hnb36 := NB183_184.out; have hnc36 := NB184_183.out; obtain ⟨hcz37_0, hcz37_1, hfz37_0, hfz37_1⟩ := cz2 (W := w35) BK183) | (go_at_call 49; (with_reducible refine (bigdec_form.calls t187 (wrap64 ((wrap64 (a0_1 + (t187.size : Int))) - a1)) t188 t189 _ A34.out).mono ?_); rintro e w38 ⟨rfl, hb⟩; replace BK183 := kN (g := gb183) (cs := #[.string a0_0, .int .i64 a0_1]) hb bk; replace BK184 := kN (g := gb184) (cs := #[.string (⟨#[]⟩ : ByteArray), .int .i64 0]) hb bk; replace HB := bN bz hb; (try clear hb); (try clear hb2); (try clear hk); (try clear hi); obtain ⟨hcz39_0, hcz39_1, hfz39_0, hfz39_1⟩ := cz2 (W := w38) BK184))
          repeat (go_quiet (first | (go_at_call 81; (with_reducible refine (bigdec_up.calls (a0_0.extract 0 (a1 : Int).toNat) t187 _ A33.out).mono ?_); rintro e w35 ⟨rfl, hb⟩; have n0_ := Aside0.mk (blk_below (g := gb183) (o := .cells #[.string a0_0, .int .i64 a0_1] 42 (0, 0)) bk hb); have n1_ := Aside0.mk (blk_below (g := gb184) (o := .cells #[.string (⟨#[]⟩ : ByteArray), .int .i64 0] 42 (0, 0)) bk hb); have n2_ := Aside0.mk (below_step bz hb); clear BK183; clear BK184; clear HB; have BK183 := n0_; have BK184 := n1_; have HB := n2_; clear n0_ n1_ n2_; (try clear hb); (try clear hb2); (try clear hk); (try clear hi); have hnb36 := NB183_184.out; have hnc36 := NB184_183.out; obtain ⟨hcz37_0, hcz37_1, hfz37_0, hfz37_1⟩ := cz2 (W := w35) BK183) | (go_at_call 49; (with_reducible refine (bigdec_form.calls t187 (wrap64 ((wrap64 (a0_1 + (t187.size : Int))) - a1)) t188 t189 _ A34.out).mono ?_); rintro e w38 ⟨rfl, hb⟩; have n0_ := Aside0.mk (blk_below (g := gb183) (o := .cells #[.string a0_0, .int .i64 a0_1] 42 (0, 0)) bk hb); have n1_ := Aside0.mk (blk_below (g := gb184) (o := .cells #[.string (⟨#[]⟩ : ByteArray), .int .i64 0] 42 (0, 0)) bk hb); have n2_ := Aside0.mk (below_step bz hb); clear BK183; clear BK184; clear HB; have BK183 := n0_; have BK184 := n1_; have HB := n2_; clear n0_ n1_ n2_; (try clear hb); (try clear hb2); (try clear hk); (try clear hi); obtain ⟨hcz39_0, hcz39_1, hfz39_0, hfz39_1⟩ := cz2 (W := w38) BK184)); try go_wp2_with (first | (go_at_call 81; (with_reducible refine (bigdec_up.calls (a0_0.extract 0 (a1 : Int).toNat) t187 _ A33.out).mono ?_); rintro e w35 ⟨rfl, hb⟩; have n0_ := Aside0.mk (blk_below (g := gb183) (o := .cells #[.string a0_0, .int .i64 a0_1] 42 (0, 0)) bk hb); have n1_ := Aside0.mk (blk_below (g := gb184) (o := .cells #[.string (⟨#[]⟩ : ByteArray), .int .i64 0] 42 (0, 0)) bk hb); have n2_ := Aside0.mk (below_step bz hb); clear BK183; clear BK184; clear HB; have BK183 := n0_; have BK184 := n1_; have HB := n2_; clear n0_ n1_ n2_; (try clear hb); (try clear hb2); (try clear hk); (try clear hi); have hnb36 := NB183_184.out; have hnc36 := NB184_183.out; obtain ⟨hcz37_0, hcz37_1, hfz37_0, hfz37_1⟩ := cz2 (W := w35) BK183) | (go_at_call 49; (with_reducible refine (bigdec_form.calls t187 (wrap64 ((wrap64 (a0_1 + (t187.size : Int))) - a1)) t188 t189 _ A34.out).mono ?_); rintro e w38 ⟨rfl, hb⟩; have n0_ := Aside0.mk (blk_below (g := gb183) (o := .cells #[.string a0_0, .int .i64 a0_1] 42 (0, 0)) bk hb); have n1_ := Aside0.mk (blk_below (g := gb184) (o := .cells #[.string (⟨#[]⟩ : ByteArray), .int .i64 0] 42 (0, 0)) bk hb); have n2_ := Aside0.mk (below_step bz hb); clear BK183; clear BK184; clear HB; have BK183 := n0_; have BK184 := n1_; have HB := n2_; clear n0_ n1_ n2_; (try clear hb); (try clear hb2); (try clear hk); (try clear hi); obtain ⟨hcz39_0, hcz39_1, hfz39_0, hfz39_1⟩ := cz2 (W := w38) BK184)))
          refine bodyPost_ret (results_cell_row rfl _ _ gb184 42 #[.string t188, .int .i64 t189] (0, 0) _ rfl bk Tryz.underlying42 rfl (by kernel_rfl)) rfl ?_
          exact ⟨ez, bz⟩
    ·replace H := hN H c13
     exact absurd H (by simp)
   ·replace H := hN H c12
    exact absurd H (by simp)
end Go.Proofs.YtecpgdfnamkfdaaGreatDoor.Fn
end
section
namespace Go.Proofs.YtecpgdfnamkfdaaGreatDoor.Fn
open Go.RowKit Go.Proofs.YtecpgdfnamkfdaaGreatDoorW.PrintWords Go.Proofs.YtecpgdfnamkfdaaGreatDoorW.PrintLast Go.Proofs.YtecpgdfnamkfdaaGreatDoorW.PrintMore
attribute [local go_sem] fnW_0 fnW_1 fnW_2 fnW_3 fnW_4 fnW_5 fnW_guard fnW_eql max2_int min2_int max_two min_two
set_option linter.unusedVariables false
set_option linter.unusedSimpArgs false
def bigdec_Round.f (k : Nat) (a0_0 : ByteArray) (a0_1 : Int) (a1 : Int) : Option (ByteArray × Int × Int) := (bigdec_Norm.f k a0_0 a0_1).bind fun bt192 => (if bt192.2.2 = 0 then ((bigdec_round.f k bt192.1 bt192.2.1 a1).bind fun bt195 => (some (bt195.1, bt195.2, 0))) else (some ((⟨#[]⟩ : ByteArray), 0, bt192.2.2)))
set_option maxHeartbeats 8000000 in
set_option maxRecDepth 100000 in
theorem bigdec_Round.calls (k : Nat) (a0_0 : ByteArray) (a0_1 : Int) (a1 : Int) (r1 : ByteArray) (r2 : Int) (r3 : Int) (w : World) (h : bigdec_Round.f k a0_0 a0_1 a1 = some (r1, r2, r3)) :
  Calls Tryz.prog 32 #[.agg #[.string a0_0, .int .i64 a0_1], .int .i64 a1] w fun e w' => e = .returned (.tuple #[.agg #[.string r1, .int .i64 r2], .int .i64 r3]) ∧ Below w.heap.size w w' := by
 have hu42 := Tryz.underlying42
 have HB := Aside0.mk (Below.refl w.heap.size w)
 have H : ((bigdec_Norm.f k a0_0 a0_1).bind fun bt192 => (if bt192.2.2 = 0 then ((bigdec_round.f k bt192.1 bt192.2.1 a1).bind fun bt195 => (some (bt195.1, bt195.2, 0))) else (some ((⟨#[]⟩ : ByteArray), 0, bt192.2.2)))) = some (r1, r2, r3) := h
 clear h
 replace H := bs H
 obtain ⟨⟨t192, t193, t194⟩, A3, H⟩ := H
 dsimp only at H
 go_enter Tryz.func32, Tryz.ntmps32
 go_upto_if 13 with (first | ((with_reducible refine gate_dst (N := 2) rfl ?_); refine box_event rfl (N := 2) rfl (cs := #[.string a0_0, .int .i64 a0_1]) (t := 42) gz ?_; intro gb190 hg w4 hbox hb; have GE190 := gN bz hg; have BK190 := Aside0.mk hbox; replace HB := bN bz hb; clear hb hbox hg) | ((with_reducible refine gate_dst (N := 4) rfl ?_); refine box_event rfl (N := 4) rfl (cs := #[.string (⟨#[]⟩ : ByteArray), .int .i64 0]) (t := 42) gz ?_; intro gb191 hg w5 hbox hb; have GE191 := gN bz hg; have NB190_191 := lN (g := gb190) (cs := #[.string a0_0, .int .i64 a0_1]) hg bk; have NB191_190 := rN (g := gb190) (cs := #[.string a0_0, .int .i64 a0_1]) hg bk; replace BK190 := kN (g := gb190) (cs := #[.string a0_0, .int .i64 a0_1]) hb bk; have BK191 := Aside0.mk hbox; replace HB := bN bz hb; clear hb hbox hg; have hnb6 := NB190_191.out; have hnc6 := NB191_190.out; obtain ⟨hcz7_0, hcz7_1, hfz7_0, hfz7_1⟩ := cz2 (W := w5) BK190) | ((with_reducible refine gate_callee (f := 50) rfl ?_); refine goesL_ (some 9) rfl rfl Tryz.func50 (by kernel_rfl) rfl #[.agg #[.string a0_0, .int .i64 a0_1]] rfl lz ?_; (with_reducible refine (bigdec_Norm.calls k a0_0 a0_1 t192 t193 t194 _ A3.out).mono ?_); rintro e w8 ⟨rfl, hb⟩; refine ⟨_, rfl, ?_⟩; replace BK190 := kN (g := gb190) (cs := #[.string a0_0, .int .i64 a0_1]) hb bk; replace BK191 := kN (g := gb191) (cs := #[.string (⟨#[]⟩ : ByteArray), .int .i64 0]) hb bk; replace HB := bN bz hb; (try clear hb); (try clear hb2); (try clear hk); (try clear hi); obtain ⟨hcz9_0, hcz9_1, hfz9_0, hfz9_1⟩ := cz2 (W := w8) BK190))
 (try simp only [Act.put, List.setIfInBounds_toArray, List.set_cons_zero, List.set_cons_succ])
 by_cases c10 : t194 = 0
 ·replace H := hE H c10
  obtain ⟨c10b0, c10b1⟩ := eT c10
  clear c10
  try first | rw [c10b0] | rw [c10b1]
  replace H := bs H
  obtain ⟨⟨t195, t196⟩, A11, H⟩ := H
  dsimp only at H
  simp only [Option.some.injEq, Prod.mk.injEq] at H
  obtain ⟨rfl, rfl, rfl⟩ := H
  have hnb12 := NB190_191.out
  have hnc12 := NB191_190.out
  obtain ⟨hcz13_0, hcz13_1, hfz13_0, hfz13_1⟩ := cz2 (W := w8) BK190
  go_wp2_with (first | ((with_reducible refine gate_callee (f := 51) rfl ?_); refine goesL_ (some 18) rfl rfl Tryz.func51 (by kernel_rfl) rfl #[.agg #[.string t192, .int .i64 t193], .int .i64 a1] rfl lz ?_; (with_reducible refine (bigdec_round.calls k t192 t193 a1 t195 t196 _ A11.out).mono ?_); rintro e w14 ⟨rfl, hb⟩; refine ⟨_, rfl, ?_⟩; replace BK190 := kN (g := gb190) (cs := #[.string t192, .int .i64 t193]) hb bk; replace BK191 := kN (g := gb191) (cs := #[.string (⟨#[]⟩ : ByteArray), .int .i64 0]) hb bk; replace HB := bN bz hb; (try clear hb); (try clear hb2); (try clear hk); (try clear hi); obtain ⟨hcz15_0, hcz15_1, hfz15_0, hfz15_1⟩ := cz2 (W := w14) BK191))
  refine bodyPost_ret (results_ct rfl _ _ gb191 42 #[.string t195, .int .i64 t196] (0, 0) _ rfl bk Tryz.underlying42 rfl (by kernel_rfl)) rfl ?_
  exact ⟨ez, bz⟩
 ·replace H := hN H c10
  obtain ⟨c10b0, c10b1⟩ := eF c10
  try first | rw [c10b0] | rw [c10b1]
  simp only [Option.some.injEq, Prod.mk.injEq] at H
  obtain ⟨rfl, rfl, rfl⟩ := H
  have hnb16 := NB191_190.out
  have hnc16 := NB190_191.out
  obtain ⟨hcz17_0, hcz17_1, hfz17_0, hfz17_1⟩ := cz2 (W := w8) BK191
  go_wp2
  refine bodyPost_ret (results_ct rfl _ _ gb191 42 #[.string (⟨#[]⟩ : ByteArray), .int .i64 0] (0, 0) _ rfl bk Tryz.underlying42 rfl (by kernel_rfl)) rfl ?_
  exact ⟨ez, bz⟩
end Go.Proofs.YtecpgdfnamkfdaaGreatDoor.Fn
end
