/- The law ShortDigits: the walks through its functions and its plain law (part 3). Own texts and the kit's printed words for this seat, without what the law does not use: put together by merge.py (of this work). -/
import Derived.Test.YtmeapdchnnpceaaDoorMShortDigits2
section
namespace Go.Proofs.YtmeapdchnnpceaaDoor.Pure
set_option linter.unusedVariables false
def fM (f p : Nat) : Nat := if p / 2 ^ f = 0 then p % 2 ^ f else p % 2 ^ f + 2 ^ f
def fE (f p : Nat) : Nat := p / 2 ^ f - 1
def fW (f p : Nat) : Nat := fM f p * 2 ^ fE f p
theorem two_pos (n : Nat) : 0 < 2 ^ n := Nat.pow_pos (by omega)
theorem fM_lt (f p : Nat) : fM f p < 2 ^ (f + 1) := by
  have h := Nat.mod_lt p (two_pos f)
  unfold fM
  rw [Nat.pow_succ]
  split <;> omega
theorem fParts (f k m : Nat) (h1 : m < 2 ^ (f + 1)) (h2 : 2 ^ f ≤ m ∨ k = 0) : fM f (k * 2 ^ f + m) = m ∧ fE f (k * 2 ^ f + m) = k := by
  have hp := two_pos f
  rw [Nat.pow_succ] at h1
  unfold fM fE
  by_cases c : 2 ^ f ≤ m
  · have e : k * 2 ^ f + m = (m - 2 ^ f) + 2 ^ f * (k + 1) := by rw [Nat.mul_add, Nat.mul_one, Nat.mul_comm (2 ^ f) k]; omega
    rw [e, Nat.add_mul_div_left _ _ hp, Nat.add_mul_mod_self_left, Nat.div_eq_of_lt (by omega), Nat.mod_eq_of_lt (by omega)]
    rw [if_neg (by omega)]
    omega
  · have hk : k = 0 := h2.resolve_left c
    subst hk
    rw [Nat.zero_mul, Nat.zero_add, Nat.div_eq_of_lt (by omega), Nat.mod_eq_of_lt (by omega), if_pos rfl]
    exact ⟨rfl, rfl⟩
theorem fOf (f p : Nat) : p = fE f p * 2 ^ f + fM f p ∧ (2 ^ f ≤ fM f p ∨ fE f p = 0) := by
  have hp := two_pos f
  have hd := Nat.div_add_mod p (2 ^ f)
  unfold fM fE
  by_cases c : p / 2 ^ f = 0
  · rw [if_pos c, c, Nat.zero_sub, Nat.zero_mul, Nat.zero_add]
    rw [c, Nat.mul_zero, Nat.zero_add] at hd
    exact ⟨hd.symm, .inr rfl⟩
  · rw [if_neg c]
    obtain ⟨j, hj⟩ := Nat.exists_eq_succ_of_ne_zero c
    rw [Nat.succ_eq_add_one] at hj
    rw [hj] at hd ⊢
    rw [Nat.mul_add, Nat.mul_one, Nat.mul_comm (2 ^ f) j] at hd
    rw [Nat.add_sub_cancel]
    omega
theorem fW_at {f k m : Nat} (h1 : m ≤ 2 ^ (f + 1)) (h2 : 2 ^ f ≤ m ∨ k = 0) : fW f (k * 2 ^ f + m) = m * 2 ^ k := by
  by_cases c : m < 2 ^ (f + 1)
  · obtain ⟨e1, e2⟩ := fParts f k m c h2
    unfold fW
    rw [e1, e2]
  · have hm : m = 2 ^ (f + 1) := by omega
    have e : k * 2 ^ f + m = (k + 1) * 2 ^ f + 2 ^ f := by rw [hm, Nat.pow_succ, Nat.add_mul]; omega
    obtain ⟨e1, e2⟩ := fParts f (k + 1) (2 ^ f) (by rw [Nat.pow_succ]; have := two_pos f; omega) (.inl (Nat.le_refl _))
    unfold fW
    rw [e, e1, e2, hm, Nat.pow_succ, Nat.pow_succ, Nat.mul_assoc, Nat.mul_comm 2]
theorem fW_step (f p : Nat) : fW f (p + 1) = fW f p + 2 ^ fE f p := by
  obtain ⟨e1, e2⟩ := fOf f p
  have hlt := fM_lt f p
  have e3 : p + 1 = fE f p * 2 ^ f + (fM f p + 1) := by omega
  rw [e3, fW_at (by omega) (e2.imp (fun h => by omega) id)]
  unfold fW
  rw [Nat.add_mul, Nat.one_mul]
theorem fW_lt {f p q : Nat} (h : p < q) : fW f p < fW f q := by
  obtain ⟨d, rfl⟩ : ∃ d, q = p + 1 + d := ⟨q - (p + 1), by omega⟩
  clear h
  induction d with
  | zero => rw [Nat.add_zero, fW_step]; have := two_pos (fE f p); omega
  | succ d ih => rw [← Nat.add_assoc, fW_step]; have := two_pos (fE f (p + 1 + d)); omega
theorem fW_le {f p q : Nat} (h : p ≤ q) : fW f p ≤ fW f q := by
  rcases Nat.lt_or_eq_of_le h with h | rfl
  · exact Nat.le_of_lt (fW_lt h)
  · exact Nat.le_refl _
theorem fW_zero (f : Nat) : fW f 0 = 0 := by
  have := fW_at (f := f) (k := 0) (m := 0) (Nat.zero_le _) (.inr rfl)
  rw [Nat.zero_mul, Nat.zero_add, Nat.zero_mul] at this
  exact this
def fFloor (f inf X B p : Nat) : Prop := p ≤ inf ∧ fW f p * B ≤ X ∧ (p < inf → X < fW f (p + 1) * B)
theorem fFloor_one {f inf X B p q : Nat} (hB : 0 < B) (h1 : fFloor f inf X B p) (h2 : fFloor f inf X B q) : p = q := by
  obtain ⟨a1, a2, a3⟩ := h1
  obtain ⟨b1, b2, b3⟩ := h2
  have key : ∀ p q : Nat, p < q → q ≤ inf → fW f q * B ≤ X → (p < inf → X < fW f (p + 1) * B) → False := by
    intro p q hpq hq h1 h2
    have h3 := h2 (by omega)
    have h4 : fW f (p + 1) * B ≤ fW f q * B := Nat.mul_le_mul_right _ (fW_le hpq)
    omega
  rcases Nat.lt_trichotomy p q with h | h | h
  · exact (key p q h b1 b2 a3).elim
  · exact h
  · exact (key q p h a1 a2 b3).elim
def fUp (f X B p : Nat) : Prop := (fW f p + fW f (p + 1)) * B < 2 * X ∨ ((fW f p + fW f (p + 1)) * B = 2 * X ∧ p % 2 = 1)
instance (f X B p : Nat) : Decidable (fUp f X B p) := by unfold fUp; infer_instance
def fNear (f inf X B p : Nat) : Nat := if p = inf then inf else if fUp f X B p then p + 1 else p
def fFind (f X B : Nat) : Nat → Nat → Nat
  | 0, lo => lo
  | n + 1, lo => if fW f (lo + 2 ^ n) * B ≤ X then fFind f X B n (lo + 2 ^ n) else fFind f X B n lo
theorem fFind_spec (f X B : Nat) : ∀ n lo, fW f lo * B ≤ X → fW f (fFind f X B n lo) * B ≤ X ∧ (X < fW f (lo + 2 ^ n) * B → X < fW f (fFind f X B n lo + 1) * B) ∧ lo ≤ fFind f X B n lo ∧ fFind f X B n lo < lo + 2 ^ n
  | 0, lo, h => ⟨h, fun h => h, Nat.le_refl _, by simp [fFind]⟩
  | n + 1, lo, h => by
    unfold fFind
    have hp := two_pos n
    by_cases c : fW f (lo + 2 ^ n) * B ≤ X
    · rw [if_pos c]
      obtain ⟨a, b, d, e⟩ := fFind_spec f X B n (lo + 2 ^ n) c
      refine ⟨a, fun h2 => b ?_, by omega, by rw [Nat.pow_succ]; omega⟩
      rw [show lo + 2 ^ n + 2 ^ n = lo + 2 ^ (n + 1) by rw [Nat.pow_succ]; omega]
      exact h2
    · rw [if_neg c]
      obtain ⟨a, b, d, e⟩ := fFind_spec f X B n lo h
      exact ⟨a, fun _ => b (by omega), d, by rw [Nat.pow_succ]; omega⟩
end Go.Proofs.YtmeapdchnnpceaaDoor.Pure
end
section
namespace Go.Proofs.YtmeapdchnnpceaaDoor.Fn
open Go.RowKit Go.Proofs.YtmeapdchnnpceaaDoorW.PrintWords Go.Proofs.YtmeapdchnnpceaaDoorW.PrintLast Go.Proofs.YtmeapdchnnpceaaDoorW.PrintMore
attribute [local go_sem] min2_int min_two
set_option linter.unusedVariables false
set_option linter.unusedSimpArgs false
def short_of.f (a0 : Int) : Option (Int × Int × Int × Bool) := if a0 = 32 then (some (23, (-149), 2139095040, true)) else (if a0 = 64 then (some (52, (-1074), 9218868437227405312, true)) else (some (0, 0, 0, false)))
set_option maxHeartbeats 8000000 in
set_option maxRecDepth 100000 in
theorem short_of.calls (a0 : Int) (r1 : Int) (r2 : Int) (r3 : Int) (r4 : Bool) (w : World) (h : short_of.f a0 = some (r1, r2, r3, r4)) :
  Calls Tryd.prog 27 #[.int .i64 a0] w fun e w' => e = .returned (.tuple #[.agg #[.int .i64 r1, .int .i64 r2, .int .u64 r3], .bool r4]) ∧ Below w.heap.size w w' := by
 have hu50 := Tryd.underlying50
 have HB := Aside0.mk (Below.refl w.heap.size w)
 have H : (if a0 = 32 then (some (23, (-149), 2139095040, true)) else (if a0 = 64 then (some (52, (-1074), 9218868437227405312, true)) else (some (0, 0, 0, false)))) = some (r1, r2, r3, r4) := h
 clear h
 go_enter Tryd.func27, Tryd.ntmps27
 go_upto_if 5 with (first | ((with_reducible refine gate_dst (N := 2) rfl ?_); refine box_event rfl (N := 2) rfl (cs := #[.int .i64 0, .int .i64 0, .int .u64 0]) (t := 50) gz ?_; intro gb182 hg w2 hbox hb; have GE182 := gN bz hg; have BK182 := Aside0.mk hbox; replace HB := bN bz hb; clear hb hbox hg))
 (try simp only [Act.put, List.setIfInBounds_toArray, List.set_cons_zero, List.set_cons_succ])
 by_cases c3 : a0 = 32
 ·rw [if_pos c3] at H
  obtain ⟨c3b0, c3b1⟩ := eT c3
  clear c3
  try first | rw [c3b0] | rw [c3b1]
  simp only [Option.some.injEq, Prod.mk.injEq] at H
  obtain ⟨rfl, rfl, rfl, rfl⟩ := H
  obtain ⟨hcz4_0, hcz4_1, hcz4_2, hfz4_0, hfz4_1, hfz4_2⟩ := cz3 (W := w2) BK182
  go_wp2
  refine bodyPost_ret (results_ct rfl _ _ gb182 50 #[.int .i64 23, .int .i64 (-149), .int .u64 2139095040] (0, 0) _ rfl bk Tryd.underlying50 rfl (by kernel_rfl)) rfl ?_
  exact ⟨ez, bz⟩
 ·rw [if_neg c3] at H
  obtain ⟨c3b0, c3b1⟩ := eF c3
  try first | rw [c3b0] | rw [c3b1]
  by_cases c5 : a0 = 64
  ·rw [if_pos c5] at H
   obtain ⟨c5b0, c5b1⟩ := eT c5
   clear c5
   simp only [Option.some.injEq, Prod.mk.injEq] at H
   obtain ⟨rfl, rfl, rfl, rfl⟩ := H
   obtain ⟨hcz6_0, hcz6_1, hcz6_2, hfz6_0, hfz6_1, hfz6_2⟩ := cz3 (W := w2) BK182
   go_wp2
   refine bodyPost_ret (results_ct rfl _ _ gb182 50 #[.int .i64 52, .int .i64 (-1074), .int .u64 9218868437227405312] (0, 0) _ rfl bk Tryd.underlying50 rfl (by kernel_rfl)) rfl ?_
   exact ⟨ez, bz⟩
  ·rw [if_neg c5] at H
   obtain ⟨c5b0, c5b1⟩ := eF c5
   simp only [Option.some.injEq, Prod.mk.injEq] at H
   obtain ⟨rfl, rfl, rfl, rfl⟩ := H
   obtain ⟨hcz7_0, hcz7_1, hcz7_2, hfz7_0, hfz7_1, hfz7_2⟩ := cz3 (W := w2) BK182
   go_wp2
   refine bodyPost_ret (results_ct rfl _ _ gb182 50 #[.int .i64 0, .int .i64 0, .int .u64 0] (0, 0) _ rfl bk Tryd.underlying50 rfl (by kernel_rfl)) rfl ?_
   exact ⟨ez, bz⟩
end Go.Proofs.YtmeapdchnnpceaaDoor.Fn
end
section
namespace Go.Proofs.YtmeapdchnnpceaaDoor.Fn
open Go.RowKit Go.Proofs.YtmeapdchnnpceaaDoorW.PrintWords Go.Proofs.YtmeapdchnnpceaaDoorW.PrintLast Go.Proofs.YtmeapdchnnpceaaDoorW.PrintMore
attribute [local go_sem] min2_int min_two
set_option linter.unusedVariables false
set_option linter.unusedSimpArgs false
def short_shape_value.f (a0_0 : Int) (a0_1 : Int) (a0_2 : Int) (a1 : Int) : Option (Int × Int) := if 0 ≤ a0_0 then (if (wrap64 (shr .u64 a1 a0_0)) = 0 then (some (Go.bits .and .u64 a1 (IntKind.u64.wrap ((shl .u64 1 a0_0) - 1)), a0_1)) else (some (Go.bits .or .u64 (Go.bits .and .u64 a1 (IntKind.u64.wrap ((shl .u64 1 a0_0) - 1))) (shl .u64 1 a0_0), wrap64 ((wrap64 (a0_1 + (wrap64 (shr .u64 a1 a0_0)))) - 1)))) else (none)
set_option maxHeartbeats 8000000 in
set_option maxRecDepth 100000 in
theorem short_shape_value.calls (a0_0 : Int) (a0_1 : Int) (a0_2 : Int) (a1 : Int) (r1 : Int) (r2 : Int) (w : World) (h : short_shape_value.f a0_0 a0_1 a0_2 a1 = some (r1, r2)) :
  Calls Tryd.prog 28 #[.agg #[.int .i64 a0_0, .int .i64 a0_1, .int .u64 a0_2], .int .u64 a1] w fun e w' => e = .returned (.tuple #[.int .u64 r1, .int .i64 r2]) ∧ Below w.heap.size w w' := by
 have hu50 := Tryd.underlying50
 have HB := Aside0.mk (Below.refl w.heap.size w)
 have H : (if 0 ≤ a0_0 then (if (wrap64 (shr .u64 a1 a0_0)) = 0 then (some (Go.bits .and .u64 a1 (IntKind.u64.wrap ((shl .u64 1 a0_0) - 1)), a0_1)) else (some (Go.bits .or .u64 (Go.bits .and .u64 a1 (IntKind.u64.wrap ((shl .u64 1 a0_0) - 1))) (shl .u64 1 a0_0), wrap64 ((wrap64 (a0_1 + (wrap64 (shr .u64 a1 a0_0)))) - 1)))) else (none)) = some (r1, r2) := h
 clear h
 by_cases c3 : 0 ≤ a0_0
 ·rw [if_pos c3] at H
  have c3b0 := eq_true c3
  have c3b1 : decide (0 ≤ a0_0) = true := decide_eq_true c3
  clear c3
  obtain ⟨ji4, hji4⟩ : ∃ j_ : Int, (shr .u64 a1 a0_0) = j_ := ⟨_, rfl⟩
  (first | rw [hji4] at H | simp only [hji4] at H)
  have hji4_ : (a1 / 2 ^ min a0_0.toNat 64) = ji4 := hji4
  have hji4z : a0_0 ≤ 64 → (a1 / 2 ^ a0_0.toNat) = ji4 := shr_small hji4
  have c5b0 := eq_true (of_decide_eq_true (by first | (with_reducible assumption) | assumption) : 0 ≤ a0_0)
  obtain ⟨ji6, hji6⟩ : ∃ j_ : Int, (shl .u64 1 a0_0) = j_ := ⟨_, rfl⟩
  (first | rw [hji6] at H | simp only [hji6] at H)
  have hji6_ : (IntKind.u64.wrap (1 * 2 ^ min a0_0.toNat 64)) = ji6 := hji6
  have hji6z : a0_0 ≤ 64 → (IntKind.u64.wrap (1 * 2 ^ a0_0.toNat)) = ji6 := shl_small hji6
  have hji6u : (IntKind.u64.wrap (2 ^ min a0_0.toNat 64)) = ji6 := by have h_ := hji6_; rw [Int.one_mul] at h_; exact h_
  have hji6v : a0_0 ≤ 64 → (IntKind.u64.wrap (2 ^ a0_0.toNat)) = ji6 := fun hle_ => by have h_ := hji6z hle_; rw [Int.one_mul] at h_; exact h_
  go_enter Tryd.func28, Tryd.ntmps28
  go_upto_if 20 with (first | ((with_reducible refine gate_dst (N := 2) rfl ?_); refine box_event rfl (N := 2) rfl (cs := #[.int .i64 a0_0, .int .i64 a0_1, .int .u64 a0_2]) (t := 50) gz ?_; intro gb164 hg w7 hbox hb; have GW164 := gN bz hg; have GE164 := gN bz hg; have BK164 := Aside0.mk hbox; replace HB := bN bz hb; clear hb hbox hg; obtain ⟨hcz8_0, hcz8_1, hcz8_2, hfz8_0, hfz8_1, hfz8_2⟩ := cz3 (W := w7) BK164))
  repeat (go_quiet (first | ((with_reducible refine gate_dst (N := 2) rfl ?_); refine box_event rfl (N := 2) rfl (cs := #[.int .i64 a0_0, .int .i64 a0_1, .int .u64 a0_2]) (t := 50) gz ?_; intro gb164 hg w7 hbox hb; have n0_ := Aside0.mk (below_step bz hb); have n1_ := Aside0.mk (hbox); have n2_ := Aside0.mk ((by rw [hg]; exact (below_size bz) : w.heap.size ≤ gb164)); have n3_ := Aside0.mk ((by rw [hg]; exact (below_size bz) : w.heap.size ≤ gb164)); clear HB; have HB := n0_; have BK164 := n1_; have GW164 := n2_; have GE164 := n3_; clear n0_ n1_ n2_ n3_; clear hb hbox hg; obtain ⟨hcz8_0, hcz8_1, hcz8_2, hfz8_0, hfz8_1, hfz8_2⟩ := cz3 (W := w7) BK164)); go_upto_if 20 with (first | ((with_reducible refine gate_dst (N := 2) rfl ?_); refine box_event rfl (N := 2) rfl (cs := #[.int .i64 a0_0, .int .i64 a0_1, .int .u64 a0_2]) (t := 50) gz ?_; intro gb164 hg w7 hbox hb; have n0_ := Aside0.mk (below_step bz hb); have n1_ := Aside0.mk (hbox); have n2_ := Aside0.mk ((by rw [hg]; exact (below_size bz) : w.heap.size ≤ gb164)); have n3_ := Aside0.mk ((by rw [hg]; exact (below_size bz) : w.heap.size ≤ gb164)); clear HB; have HB := n0_; have BK164 := n1_; have GW164 := n2_; have GE164 := n3_; clear n0_ n1_ n2_ n3_; clear hb hbox hg; obtain ⟨hcz8_0, hcz8_1, hcz8_2, hfz8_0, hfz8_1, hfz8_2⟩ := cz3 (W := w7) BK164)))
  (try simp only [Act.put, List.setIfInBounds_toArray, List.set_cons_zero, List.set_cons_succ])
  by_cases c9 : (wrap64 (ji4)) = 0
  ·rw [if_pos c9] at H
   obtain ⟨c9b0, c9b1⟩ := eT c9
   clear c9
   (first | rw [c9b0] | rw [c9b1] | (simp only [i64_w, i32_w]; rw [c9b0]) | skip)
   simp only [Option.some.injEq, Prod.mk.injEq] at H
   obtain ⟨rfl, rfl⟩ := H
   obtain ⟨hcz10_0, hcz10_1, hcz10_2, hfz10_0, hfz10_1, hfz10_2⟩ := cz3 (W := w7) BK164
   go_wp2
   repeat (go_quiet (fail); try go_wp2)
   go_ret2
   exact ⟨by first | rfl | (simp [errW_none, errW_some] <;> rfl) | (simp only [← hji4, ← hji6]; first | rfl | (simp [errW_none, errW_some] <;> rfl)) | (simp [*, errW_none, errW_some] <;> rfl), bz⟩
  ·rw [if_neg c9] at H
   obtain ⟨c9b0, c9b1⟩ := eF c9
   (first | rw [c9b0] | rw [c9b1] | (simp only [i64_w, i32_w]; rw [c9b0]) | skip)
   have c11b0 := eq_true (of_decide_eq_true (by first | (with_reducible assumption) | assumption) : 0 ≤ a0_0)
   simp only [Option.some.injEq, Prod.mk.injEq] at H
   obtain ⟨rfl, rfl⟩ := H
   obtain ⟨hcz13_0, hcz13_1, hcz13_2, hfz13_0, hfz13_1, hfz13_2⟩ := cz3 (W := w7) BK164
   go_wp2
   repeat (go_quiet (fail); try go_wp2)
   go_ret2
   exact ⟨by first | rfl | (simp [errW_none, errW_some] <;> rfl) | (simp only [← hji4, ← hji6]; first | rfl | (simp [errW_none, errW_some] <;> rfl)) | (simp [*, errW_none, errW_some] <;> rfl), bz⟩
 ·rw [if_neg c3] at H
  exact absurd H (by simp)
end Go.Proofs.YtmeapdchnnpceaaDoor.Fn
end
section
namespace Go.Proofs.YtmeapdchnnpceaaDoor.Fn
open Go.RowKit Go.Proofs.YtmeapdchnnpceaaDoorW.PrintWords Go.Proofs.YtmeapdchnnpceaaDoorW.PrintLast Go.Proofs.YtmeapdchnnpceaaDoorW.PrintMore
attribute [local go_sem] min2_int min_two
set_option linter.unusedVariables false
set_option linter.unusedSimpArgs false
def short_Parts.f (a0 : Int) (a1 : Int) : Option (Bool × Int × Int × Int) := (short_of.f a1).bind fun bt183 => (if bt183.2.2.2 = true then (if 0 ≤ (wrap64 (a1 - 1)) then (if (Go.bits .and .u64 a0 (IntKind.u64.wrap ((shl .u64 1 (wrap64 (a1 - 1))) - 1))) = bt183.2.2.1 then (some (((Go.bits .and .u64 (shr .u64 a0 (wrap64 (a1 - 1))) 1) == 1), 0, 0, 1)) else (if (Go.bits .and .u64 a0 (IntKind.u64.wrap ((shl .u64 1 (wrap64 (a1 - 1))) - 1))) > bt183.2.2.1 then (some (((Go.bits .and .u64 (shr .u64 a0 (wrap64 (a1 - 1))) 1) == 1), 0, 0, 2)) else ((short_shape_value.f bt183.1 bt183.2.1 bt183.2.2.1 (Go.bits .and .u64 a0 (IntKind.u64.wrap ((shl .u64 1 (wrap64 (a1 - 1))) - 1)))).bind fun bt188 => (some (((Go.bits .and .u64 (shr .u64 a0 (wrap64 (a1 - 1))) 1) == 1), bt188.1, bt188.2, 0))))) else (none)) else (some (false, 0, 0, 3)))
set_option maxHeartbeats 8000000 in
set_option maxRecDepth 100000 in
theorem short_Parts.calls (a0 : Int) (a1 : Int) (r1 : Bool) (r2 : Int) (r3 : Int) (r4 : Int) (w : World) (h : short_Parts.f a0 a1 = some (r1, r2, r3, r4)) :
  Calls Tryd.prog 13 #[.int .u64 a0, .int .i64 a1] w fun e w' => e = .returned (.tuple #[.bool r1, .int .u64 r2, .int .i64 r3, .int .i64 r4]) ∧ Below w.heap.size w w' := by
 have hu50 := Tryd.underlying50
 have HB := Aside0.mk (Below.refl w.heap.size w)
 have H : ((short_of.f a1).bind fun bt183 => (if bt183.2.2.2 = true then (if 0 ≤ (wrap64 (a1 - 1)) then (if (Go.bits .and .u64 a0 (IntKind.u64.wrap ((shl .u64 1 (wrap64 (a1 - 1))) - 1))) = bt183.2.2.1 then (some (((Go.bits .and .u64 (shr .u64 a0 (wrap64 (a1 - 1))) 1) == 1), 0, 0, 1)) else (if (Go.bits .and .u64 a0 (IntKind.u64.wrap ((shl .u64 1 (wrap64 (a1 - 1))) - 1))) > bt183.2.2.1 then (some (((Go.bits .and .u64 (shr .u64 a0 (wrap64 (a1 - 1))) 1) == 1), 0, 0, 2)) else ((short_shape_value.f bt183.1 bt183.2.1 bt183.2.2.1 (Go.bits .and .u64 a0 (IntKind.u64.wrap ((shl .u64 1 (wrap64 (a1 - 1))) - 1)))).bind fun bt188 => (some (((Go.bits .and .u64 (shr .u64 a0 (wrap64 (a1 - 1))) 1) == 1), bt188.1, bt188.2, 0))))) else (none)) else (some (false, 0, 0, 3)))) = some (r1, r2, r3, r4) := h
 clear h
 replace H := bs H
 obtain ⟨⟨t183, t184, t185, t186⟩, A3, H⟩ := H
 dsimp only at H
 go_enter Tryd.func13, Tryd.ntmps13
 go_upto_if 20 with (first | ((with_reducible refine gate_callee (f := 27) rfl ?_); refine goesL_ (some 16) rfl rfl Tryd.func27 (by kernel_rfl) rfl #[.int .i64 a1] rfl lz ?_; (with_reducible refine (short_of.calls a1 t183 t184 t185 t186 _ A3.out).mono ?_); rintro e w4 ⟨rfl, hb⟩; refine ⟨_, rfl, ?_⟩; replace HB := bN bz hb; (try clear hb); (try clear hb2); (try clear hk); (try clear hi)) | ((with_reducible refine gate_dst (N := 8) rfl ?_); refine box_event rfl (N := 8) rfl (cs := #[.int .i64 0, .int .i64 0, .int .u64 0]) (t := 50) gz ?_; intro gb187 hg w5 hbox hb; have GE187 := gN bz hg; have BK187 := Aside0.mk hbox; replace HB := bN bz hb; clear hb hbox hg; obtain ⟨hcz6_0, hcz6_1, hcz6_2, hfz6_0, hfz6_1, hfz6_2⟩ := cz3 (W := w5) BK187))
 (try simp only [Act.put, List.setIfInBounds_toArray, List.set_cons_zero, List.set_cons_succ])
 by_cases c7 : t186 = true
 ·subst c7
  replace H := hT H
  obtain ⟨ji8, hji8⟩ : ∃ j_ : Int, (wrap64 (a1 - 1)) = j_ := ⟨_, rfl⟩
  (first | rw [hji8] at H | simp only [hji8] at H)
  have hji8w : (IntKind.i64.wrap (a1 - 1)) = ji8 := (i64_w _).trans hji8
  by_cases c9 : 0 ≤ (ji8)
  ·rw [if_pos c9] at H
   have c9b0 := eq_true c9
   have c9b1 : decide (0 ≤ (ji8)) = true := decide_eq_true c9
   clear c9
   obtain ⟨ji10, hji10⟩ : ∃ j_ : Int, (shr .u64 a0 (ji8)) = j_ := ⟨_, rfl⟩
   (first | rw [hji10] at H | simp only [hji10] at H)
   have hji10_ : (a0 / 2 ^ min (ji8).toNat 64) = ji10 := hji10
   have hji10z : (ji8) ≤ 64 → (a0 / 2 ^ (ji8).toNat) = ji10 := shr_small hji10
   have c11b0 := eq_true (of_decide_eq_true (by first | (with_reducible assumption) | assumption) : 0 ≤ (ji8))
   obtain ⟨ji12, hji12⟩ : ∃ j_ : Int, (shl .u64 1 (ji8)) = j_ := ⟨_, rfl⟩
   (first | rw [hji12] at H | simp only [hji12] at H)
   have hji12_ : (IntKind.u64.wrap (1 * 2 ^ min (ji8).toNat 64)) = ji12 := hji12
   have hji12z : (ji8) ≤ 64 → (IntKind.u64.wrap (1 * 2 ^ (ji8).toNat)) = ji12 := shl_small hji12
   have hji12u : (IntKind.u64.wrap (2 ^ min (ji8).toNat 64)) = ji12 := by have h_ := hji12_; rw [Int.one_mul] at h_; exact h_
   have hji12v : (ji8) ≤ 64 → (IntKind.u64.wrap (2 ^ (ji8).toNat)) = ji12 := fun hle_ => by have h_ := hji12z hle_; rw [Int.one_mul] at h_; exact h_
   by_cases c13 : (Go.bits .and .u64 a0 (IntKind.u64.wrap ((ji12) - 1))) = t185
   ·rw [if_pos c13] at H
    obtain ⟨c13b0, c13b1⟩ := eT c13
    clear c13
    (first | rw [c13b0] | rw [c13b1] | (simp only [i64_w, i32_w]; rw [c13b0]) | skip)
    simp only [Option.some.injEq, Prod.mk.injEq] at H
    obtain ⟨rfl, rfl, rfl, rfl⟩ := H
    obtain ⟨hcz14_0, hcz14_1, hcz14_2, hfz14_0, hfz14_1, hfz14_2⟩ := cz3 (W := w5) BK187
    go_wp2
    refine bodyPost_ret (results_list (rs := [.tmp 4, .tmp 5, .tmp 6, .tmp 7]) rfl (by simp) (.tmp (.tmp (.tmp (.tmp .nil))))) rfl ?_
    exact ⟨by first | rfl | (simp [errW_none, errW_some] <;> rfl) | (simp only [← hji8, ← hji10, ← hji12]; first | rfl | (simp [errW_none, errW_some] <;> rfl)) | (simp [*, errW_none, errW_some] <;> rfl), bz⟩
   ·rw [if_neg c13] at H
    obtain ⟨c13b0, c13b1⟩ := eF c13
    (first | rw [c13b0] | rw [c13b1] | (simp only [i64_w, i32_w]; rw [c13b0]) | skip)
    by_cases c15 : (Go.bits .and .u64 a0 (IntKind.u64.wrap ((ji12) - 1))) > t185
    ·rw [if_pos c15] at H
     have c15b0 : decide (t185 < (Go.bits .and .u64 a0 (IntKind.u64.wrap ((ji12) - 1)))) = true := decide_eq_true c15
     clear c15
     simp only [Option.some.injEq, Prod.mk.injEq] at H
     obtain ⟨rfl, rfl, rfl, rfl⟩ := H
     obtain ⟨hcz16_0, hcz16_1, hcz16_2, hfz16_0, hfz16_1, hfz16_2⟩ := cz3 (W := w5) BK187
     go_wp2
     refine bodyPost_ret (results_list (rs := [.tmp 4, .tmp 5, .tmp 6, .tmp 7]) rfl (by simp) (.tmp (.tmp (.tmp (.tmp .nil))))) rfl ?_
     exact ⟨by first | rfl | (simp [errW_none, errW_some] <;> rfl) | (simp only [← hji8, ← hji10, ← hji12]; first | rfl | (simp [errW_none, errW_some] <;> rfl)) | (simp [*, errW_none, errW_some] <;> rfl), bz⟩
    ·rw [if_neg c15] at H
     have c15b0 : decide (t185 < (Go.bits .and .u64 a0 (IntKind.u64.wrap ((ji12) - 1)))) = false := decide_eq_false c15
     clear c15
     replace H := bs H
     obtain ⟨⟨t188, t189⟩, A17, H⟩ := H
     dsimp only at H
     simp only [Option.some.injEq, Prod.mk.injEq] at H
     obtain ⟨rfl, rfl, rfl, rfl⟩ := H
     obtain ⟨hcz18_0, hcz18_1, hcz18_2, hfz18_0, hfz18_1, hfz18_2⟩ := cz3 (W := w5) BK187
     go_wp2_with (first | ((with_reducible refine gate_callee (f := 28) rfl ?_); refine goesL_ (some 36) rfl rfl Tryd.func28 (by kernel_rfl) rfl #[.agg #[.int .i64 t183, .int .i64 t184, .int .u64 t185], .int .u64 (Go.bits .and .u64 a0 (IntKind.u64.wrap ((ji12) - 1)))] rfl (by (try simp only [List.map_toArray, List.map_cons, List.map_nil]); first | done | (simp only [hji12]; rfl) | rfl | (simp only [List.length_drop, List.length_take]; rfl)) ?_; (with_reducible refine (short_shape_value.calls t183 t184 t185 (Go.bits .and .u64 a0 (IntKind.u64.wrap ((ji12) - 1))) t188 t189 _ A17.out).mono ?_); rintro e w19 ⟨rfl, hb⟩; refine ⟨_, rfl, ?_⟩; replace BK187 := kN (g := gb187) (cs := #[.int .i64 t183, .int .i64 t184, .int .u64 t185]) hb bk; replace HB := bN bz hb; (try clear hb); (try clear hb2); (try clear hk); (try clear hi)))
     refine bodyPost_ret (results_list (rs := [.tmp 4, .tmp 5, .tmp 6, .tmp 7]) rfl (by simp) (.tmp (.tmp (.tmp (.tmp .nil))))) rfl ?_
     exact ⟨by first | rfl | (simp [errW_none, errW_some] <;> rfl) | (simp only [← hji8, ← hji10, ← hji12]; first | rfl | (simp [errW_none, errW_some] <;> rfl)) | (simp [*, errW_none, errW_some] <;> rfl), bz⟩
  ·rw [if_neg c9] at H
   exact absurd H (by simp)
 ·replace c7 := Bool.eq_false_iff.mpr c7
  subst c7
  replace H := hF H
  simp only [Option.some.injEq, Prod.mk.injEq] at H
  obtain ⟨rfl, rfl, rfl, rfl⟩ := H
  go_wp2
  refine bodyPost_ret (results_list (rs := [.tmp 4, .tmp 5, .tmp 6, .tmp 7]) rfl (by simp) (.tmp (.tmp (.tmp (.tmp .nil))))) rfl ?_
  exact ⟨ez, bz⟩
end Go.Proofs.YtmeapdchnnpceaaDoor.Fn
end
section
namespace Go.Proofs.YtmeapdchnnpceaaDoor.Fn
open Go.RowKit Go.Proofs.YtmeapdchnnpceaaDoorW.PrintWords Go.Proofs.YtmeapdchnnpceaaDoorW.PrintLast Go.Proofs.YtmeapdchnnpceaaDoorW.PrintMore
attribute [local go_sem] min2_int min_two
set_option linter.unusedVariables false
set_option linter.unusedSimpArgs false
def platenref05_pow.l0 : Nat → Int → Int → Int → Option (Int)
 | 0, _, _, _ => none
 | k + 1, x0, x3, x4 => if x4 < x0 then (platenref05_pow.l0 k x0 (IntKind.u64.wrap (2 * x3)) (wrap64 (x4 + 1))) else (some x3)
def platenref05_pow.f (k : Nat) (a0 : Int) : Option (Int) := platenref05_pow.l0 k a0 1 0
set_option maxHeartbeats 8000000 in
set_option maxRecDepth 100000 in
theorem platenref05_pow.calls (k : Nat) (a0 : Int) (r : Int) (w : World) (h : platenref05_pow.f k a0 = some r) :
  Calls Tryd.prog 31 #[.int .i64 a0] w fun e w' => e = .returned (.int .u64 r) ∧ Drawn0 w w' := by
 have H : (platenref05_pow.l0 k a0 1 0) = some r := h
 clear h
 have H' := Aside0.mk H
 clear H
 go_enter Tryd.func31, Tryd.ntmps31
 go_wp2
 go_loopg [3, 4] k (fun kq v3 v4 w' => ∃ (x3_1 : Int) (x4_1 : Int), v3 = .int .u64 x3_1 ∧ v4 = .int .i64 x4_1 ∧ Aside0 (platenref05_pow.l0 kq a0 x3_1 x4_1 = some r) ∧ Aside0 (kq ≤ k) ∧ Drawn0 w w')
 case atStart => exact ⟨(1), (0), rz, rz, H', ⟨Nat.le_refl _⟩, by repeat (first | exact Drawn0.refl _ | apply Drawn0.step)⟩
 case round =>
  clear H'
  obtain ⟨x3_1, x4_1, rfl, rfl, HA, HK1, ⟨m1, rfl⟩⟩ := hrel
  cases gk with
  | zero => exact absurd HA.out (by simp [platenref05_pow.l0])
  | succ k1 =>
   have H := HA.out
   clear HA
   simp only [platenref05_pow.l0] at H
   by_cases c2 : x4_1 < a0
   ·rw [if_pos c2] at H
    have c2b0 := decide_eq_true c2
    clear c2
    have H' := Aside0.mk H
    clear H
    go_wp2
    go_roundg k1
    case measure => have := HK1.out; omega
    case rel => exact ⟨(IntKind.u64.wrap (2 * x3_1)), (wrap64 (x4_1 + 1)), rz, rz, H', ⟨by have := HK1.out; omega⟩, by repeat (first | exact Drawn0.refl _ | apply Drawn0.step)⟩
   ·rw [if_neg c2] at H
    have c2b0 := decide_eq_false c2
    clear c2
    obtain rfl := Option.some.inj H
    go_wp2
    go_ret
    exact ⟨by first | rfl | (simp; done) | (simp [*]; done), by repeat (first | exact Drawn0.refl _ | apply Drawn0.step)⟩
end Go.Proofs.YtmeapdchnnpceaaDoor.Fn
end
section
namespace Go.Proofs.YtmeapdchnnpceaaDoor.Fn
open Go.RowKit Go.Proofs.YtmeapdchnnpceaaDoorW.PrintWords Go.Proofs.YtmeapdchnnpceaaDoorW.PrintLast Go.Proofs.YtmeapdchnnpceaaDoorW.PrintMore
attribute [local go_sem] min2_int min_two
set_option linter.unusedVariables false
set_option linter.unusedSimpArgs false
def platenref05_Shape.f (a0 : Int) : Option (Int × Int × Int) := if a0 = 32 then (some (23, 8, (-149))) else (some (52, 11, (-1074)))
set_option maxHeartbeats 8000000 in
set_option maxRecDepth 100000 in
theorem platenref05_Shape.calls (a0 : Int) (r1 : Int) (r2 : Int) (r3 : Int) (w : World) (h : platenref05_Shape.f a0 = some (r1, r2, r3)) :
  Calls Tryd.prog 30 #[.int .i64 a0] w fun e w' => e = .returned (.tuple #[.int .i64 r1, .int .i64 r2, .int .i64 r3]) ∧ Drawn0 w w' := by
 have H : (if a0 = 32 then (some (23, 8, (-149))) else (some (52, 11, (-1074)))) = some (r1, r2, r3) := h
 clear h
 by_cases c2 : a0 = 32
 ·rw [if_pos c2] at H
  obtain ⟨c2b0, c2b1⟩ := eT c2
  clear c2
  simp only [Option.some.injEq, Prod.mk.injEq] at H
  obtain ⟨rfl, rfl, rfl⟩ := H
  go_enter Tryd.func30, Tryd.ntmps30
  go_wp2
  go_ret3
  exact ⟨by first | rfl | (simp; done) | (simp [*]; done), by repeat (first | exact Drawn0.refl _ | apply Drawn0.step)⟩
 ·rw [if_neg c2] at H
  obtain ⟨c2b0, c2b1⟩ := eF c2
  simp only [Option.some.injEq, Prod.mk.injEq] at H
  obtain ⟨rfl, rfl, rfl⟩ := H
  go_enter Tryd.func30, Tryd.ntmps30
  go_wp2
  go_ret3
  exact ⟨by first | rfl | (simp; done) | (simp [*]; done), by repeat (first | exact Drawn0.refl _ | apply Drawn0.step)⟩
end Go.Proofs.YtmeapdchnnpceaaDoor.Fn
end
section
namespace Go.Proofs.YtmeapdchnnpceaaDoor.Fn
open Go.RowKit Go.Proofs.YtmeapdchnnpceaaDoorW.PrintWords Go.Proofs.YtmeapdchnnpceaaDoorW.PrintLast Go.Proofs.YtmeapdchnnpceaaDoorW.PrintMore
attribute [local go_sem] min2_int min_two
set_option linter.unusedVariables false
set_option linter.unusedSimpArgs false
def platenref05_Sized.f (a0 : Int) : Option (Bool) := if a0 = 32 then (some true) else (some (a0 == 64))
set_option maxHeartbeats 8000000 in
set_option maxRecDepth 100000 in
theorem platenref05_Sized.calls (a0 : Int) (r : Bool) (w : World) (h : platenref05_Sized.f a0 = some r) :
  Calls Tryd.prog 29 #[.int .i64 a0] w fun e w' => e = .returned (.bool r) ∧ Drawn0 w w' := by
 have H : (if a0 = 32 then (some true) else (some (a0 == 64))) = some r := h
 clear h
 by_cases c2 : a0 = 32
 ·rw [if_pos c2] at H
  obtain ⟨c2b0, c2b1⟩ := eT c2
  clear c2
  obtain rfl := Option.some.inj H
  go_enter Tryd.func29, Tryd.ntmps29
  go_wp2
  go_ret
  exact ⟨by first | rfl | (simp; done) | (simp [*]; done), by repeat (first | exact Drawn0.refl _ | apply Drawn0.step)⟩
 ·rw [if_neg c2] at H
  obtain ⟨c2b0, c2b1⟩ := eF c2
  obtain rfl := Option.some.inj H
  go_enter Tryd.func29, Tryd.ntmps29
  go_wp2
  go_ret
  exact ⟨by first | rfl | (simp; done) | (simp [*]; done), by repeat (first | exact Drawn0.refl _ | apply Drawn0.step)⟩
end Go.Proofs.YtmeapdchnnpceaaDoor.Fn
end
section
namespace Go.Proofs.YtmeapdchnnpceaaDoor.Fn
open Go.RowKit Go.Proofs.YtmeapdchnnpceaaDoorW.PrintWords Go.Proofs.YtmeapdchnnpceaaDoorW.PrintLast Go.Proofs.YtmeapdchnnpceaaDoorW.PrintMore
attribute [local go_sem] min2_int min_two
set_option linter.unusedVariables false
set_option linter.unusedSimpArgs false
def platenref05_Parts.f (k : Nat) (a0 : Int) (a1 : Int) : Option (Bool × Int × Int × Int) := (platenref05_Sized.f a1).bind fun t190 => (if t190 = true then ((platenref05_Shape.f a1).bind fun bt191 => ((platenref05_pow.f k bt191.1).bind fun t194 => (if t194 = 0 then (none) else ((platenref05_pow.f k bt191.2.1).bind fun t195 => (if t195 = 0 then (none) else ((platenref05_pow.f k (wrap64 (bt191.1 + bt191.2.1))).bind fun t196 => (if t196 = 0 then (none) else (if (wrap64 (Int.tmod (IntKind.u64.wrap (Int.tdiv a0 t194)) t195)) = (wrap64 ((wrap64 (t195)) - 1)) then (if (Int.tmod a0 t194) = 0 then (some (((Int.tmod (IntKind.u64.wrap (Int.tdiv a0 t196)) 2) == 1), 0, 0, 1)) else (some (((Int.tmod (IntKind.u64.wrap (Int.tdiv a0 t196)) 2) == 1), 0, 0, 2))) else (if (wrap64 (Int.tmod (IntKind.u64.wrap (Int.tdiv a0 t194)) t195)) = 0 then (some (((Int.tmod (IntKind.u64.wrap (Int.tdiv a0 t196)) 2) == 1), Int.tmod a0 t194, bt191.2.2, 0)) else (some (((Int.tmod (IntKind.u64.wrap (Int.tdiv a0 t196)) 2) == 1), IntKind.u64.wrap ((Int.tmod a0 t194) + t194), wrap64 ((wrap64 (bt191.2.2 + (wrap64 (Int.tmod (IntKind.u64.wrap (Int.tdiv a0 t194)) t195)))) - 1), 0))))))))))) else (some (false, 0, 0, 3)))
set_option maxHeartbeats 8000000 in
set_option maxRecDepth 100000 in
theorem platenref05_Parts.calls (k : Nat) (a0 : Int) (a1 : Int) (r1 : Bool) (r2 : Int) (r3 : Int) (r4 : Int) (w : World) (h : platenref05_Parts.f k a0 a1 = some (r1, r2, r3, r4)) :
  Calls Tryd.prog 14 #[.int .u64 a0, .int .i64 a1] w fun e w' => e = .returned (.tuple #[.bool r1, .int .u64 r2, .int .i64 r3, .int .i64 r4]) ∧ Drawn0 w w' := by
 have H : ((platenref05_Sized.f a1).bind fun t190 => (if t190 = true then ((platenref05_Shape.f a1).bind fun bt191 => ((platenref05_pow.f k bt191.1).bind fun t194 => (if t194 = 0 then (none) else ((platenref05_pow.f k bt191.2.1).bind fun t195 => (if t195 = 0 then (none) else ((platenref05_pow.f k (wrap64 (bt191.1 + bt191.2.1))).bind fun t196 => (if t196 = 0 then (none) else (if (wrap64 (Int.tmod (IntKind.u64.wrap (Int.tdiv a0 t194)) t195)) = (wrap64 ((wrap64 (t195)) - 1)) then (if (Int.tmod a0 t194) = 0 then (some (((Int.tmod (IntKind.u64.wrap (Int.tdiv a0 t196)) 2) == 1), 0, 0, 1)) else (some (((Int.tmod (IntKind.u64.wrap (Int.tdiv a0 t196)) 2) == 1), 0, 0, 2))) else (if (wrap64 (Int.tmod (IntKind.u64.wrap (Int.tdiv a0 t194)) t195)) = 0 then (some (((Int.tmod (IntKind.u64.wrap (Int.tdiv a0 t196)) 2) == 1), Int.tmod a0 t194, bt191.2.2, 0)) else (some (((Int.tmod (IntKind.u64.wrap (Int.tdiv a0 t196)) 2) == 1), IntKind.u64.wrap ((Int.tmod a0 t194) + t194), wrap64 ((wrap64 (bt191.2.2 + (wrap64 (Int.tmod (IntKind.u64.wrap (Int.tdiv a0 t194)) t195)))) - 1), 0))))))))))) else (some (false, 0, 0, 3)))) = some (r1, r2, r3, r4) := h
 clear h
 replace H := bs H
 obtain ⟨t190, A3, H⟩ := H
 go_enter Tryd.func14, Tryd.ntmps14
 go_upto_if 16 with (first | (go_at_call 29; (with_reducible refine (platenref05_Sized.calls a1 t190 _ A3.out).mono ?_); rintro e w' ⟨rfl, ⟨nd, rfl⟩⟩; (try first | exact ⟨rfl, _, World.drewN_drewN _ _ _⟩ | exact ⟨rfl, _, Eq.trans (World.drewN_drewN _ _ _) (congrArg (World.drewN _) (Nat.add_assoc _ _ _))⟩)))
 repeat (go_quiet (first | (go_at_call 29; (with_reducible refine (platenref05_Sized.calls a1 t190 _ A3.out).mono ?_); rintro e w' ⟨rfl, ⟨nd, rfl⟩⟩; (try first | exact ⟨rfl, _, World.drewN_drewN _ _ _⟩ | exact ⟨rfl, _, Eq.trans (World.drewN_drewN _ _ _) (congrArg (World.drewN _) (Nat.add_assoc _ _ _))⟩))); go_upto_if 16 with (first | (go_at_call 29; (with_reducible refine (platenref05_Sized.calls a1 t190 _ A3.out).mono ?_); rintro e w' ⟨rfl, ⟨nd, rfl⟩⟩; (try first | exact ⟨rfl, _, World.drewN_drewN _ _ _⟩ | exact ⟨rfl, _, Eq.trans (World.drewN_drewN _ _ _) (congrArg (World.drewN _) (Nat.add_assoc _ _ _))⟩))))
 (try simp only [Act.put, List.setIfInBounds_toArray, List.set_cons_zero, List.set_cons_succ])
 by_cases c4 : t190 = true
 ·subst c4
  replace H := hT H
  replace H := bs H
  obtain ⟨⟨t191, t192, t193⟩, A5, H⟩ := H
  dsimp only at H
  replace H := bs H
  obtain ⟨t194, A6, H⟩ := H
  by_cases c7 : t194 = 0
  ·rw [if_pos c7] at H
   exact absurd H (by simp)
  ·rw [if_neg c7] at H
   obtain ⟨c7b0, c7b1⟩ := eF c7
   try first | rw [c7b0] | rw [c7b1]
   replace H := bs H
   obtain ⟨t195, A8, H⟩ := H
   by_cases c9 : t195 = 0
   ·rw [if_pos c9] at H
    exact absurd H (by simp)
   ·rw [if_neg c9] at H
    obtain ⟨c9b0, c9b1⟩ := eF c9
    replace H := bs H
    obtain ⟨t196, A10, H⟩ := H
    by_cases c11 : t196 = 0
    ·rw [if_pos c11] at H
     exact absurd H (by simp)
    ·rw [if_neg c11] at H
     obtain ⟨c11b0, c11b1⟩ := eF c11
     by_cases c12 : (wrap64 (Int.tmod (IntKind.u64.wrap (Int.tdiv a0 t194)) t195)) = (wrap64 ((wrap64 (t195)) - 1))
     ·rw [if_pos c12] at H
      obtain ⟨c12b0, c12b1⟩ := eT c12
      clear c12
      go_upto_if 50 with (first | (go_at_call 30; (with_reducible refine (platenref05_Shape.calls a1 t191 t192 t193 _ A5.out).mono ?_); rintro e w' ⟨rfl, ⟨nd, rfl⟩⟩; (try first | exact ⟨rfl, _, World.drewN_drewN _ _ _⟩ | exact ⟨rfl, _, Eq.trans (World.drewN_drewN _ _ _) (congrArg (World.drewN _) (Nat.add_assoc _ _ _))⟩)) | (go_at_call 31; (with_reducible refine (platenref05_pow.calls k t191 t194 _ A6.out).mono ?_); rintro e w' ⟨rfl, ⟨nd, rfl⟩⟩; (try first | exact ⟨rfl, _, World.drewN_drewN _ _ _⟩ | exact ⟨rfl, _, Eq.trans (World.drewN_drewN _ _ _) (congrArg (World.drewN _) (Nat.add_assoc _ _ _))⟩)) | (go_at_call 31; (with_reducible refine (platenref05_pow.calls k t192 t195 _ A8.out).mono ?_); rintro e w' ⟨rfl, ⟨nd, rfl⟩⟩; (try first | exact ⟨rfl, _, World.drewN_drewN _ _ _⟩ | exact ⟨rfl, _, Eq.trans (World.drewN_drewN _ _ _) (congrArg (World.drewN _) (Nat.add_assoc _ _ _))⟩)) | (go_at_call 31; (with_reducible refine (platenref05_pow.calls k (wrap64 (t191 + t192)) t196 _ A10.out).mono ?_); rintro e w' ⟨rfl, ⟨nd, rfl⟩⟩; (try first | exact ⟨rfl, _, World.drewN_drewN _ _ _⟩ | exact ⟨rfl, _, Eq.trans (World.drewN_drewN _ _ _) (congrArg (World.drewN _) (Nat.add_assoc _ _ _))⟩)))
      repeat (go_quiet (first | (go_at_call 30; (with_reducible refine (platenref05_Shape.calls a1 t191 t192 t193 _ A5.out).mono ?_); rintro e w' ⟨rfl, ⟨nd, rfl⟩⟩; (try first | exact ⟨rfl, _, World.drewN_drewN _ _ _⟩ | exact ⟨rfl, _, Eq.trans (World.drewN_drewN _ _ _) (congrArg (World.drewN _) (Nat.add_assoc _ _ _))⟩)) | (go_at_call 31; (with_reducible refine (platenref05_pow.calls k t191 t194 _ A6.out).mono ?_); rintro e w' ⟨rfl, ⟨nd, rfl⟩⟩; (try first | exact ⟨rfl, _, World.drewN_drewN _ _ _⟩ | exact ⟨rfl, _, Eq.trans (World.drewN_drewN _ _ _) (congrArg (World.drewN _) (Nat.add_assoc _ _ _))⟩)) | (go_at_call 31; (with_reducible refine (platenref05_pow.calls k t192 t195 _ A8.out).mono ?_); rintro e w' ⟨rfl, ⟨nd, rfl⟩⟩; (try first | exact ⟨rfl, _, World.drewN_drewN _ _ _⟩ | exact ⟨rfl, _, Eq.trans (World.drewN_drewN _ _ _) (congrArg (World.drewN _) (Nat.add_assoc _ _ _))⟩)) | (go_at_call 31; (with_reducible refine (platenref05_pow.calls k (wrap64 (t191 + t192)) t196 _ A10.out).mono ?_); rintro e w' ⟨rfl, ⟨nd, rfl⟩⟩; (try first | exact ⟨rfl, _, World.drewN_drewN _ _ _⟩ | exact ⟨rfl, _, Eq.trans (World.drewN_drewN _ _ _) (congrArg (World.drewN _) (Nat.add_assoc _ _ _))⟩))); go_upto_if 50 with (first | (go_at_call 30; (with_reducible refine (platenref05_Shape.calls a1 t191 t192 t193 _ A5.out).mono ?_); rintro e w' ⟨rfl, ⟨nd, rfl⟩⟩; (try first | exact ⟨rfl, _, World.drewN_drewN _ _ _⟩ | exact ⟨rfl, _, Eq.trans (World.drewN_drewN _ _ _) (congrArg (World.drewN _) (Nat.add_assoc _ _ _))⟩)) | (go_at_call 31; (with_reducible refine (platenref05_pow.calls k t191 t194 _ A6.out).mono ?_); rintro e w' ⟨rfl, ⟨nd, rfl⟩⟩; (try first | exact ⟨rfl, _, World.drewN_drewN _ _ _⟩ | exact ⟨rfl, _, Eq.trans (World.drewN_drewN _ _ _) (congrArg (World.drewN _) (Nat.add_assoc _ _ _))⟩)) | (go_at_call 31; (with_reducible refine (platenref05_pow.calls k t192 t195 _ A8.out).mono ?_); rintro e w' ⟨rfl, ⟨nd, rfl⟩⟩; (try first | exact ⟨rfl, _, World.drewN_drewN _ _ _⟩ | exact ⟨rfl, _, Eq.trans (World.drewN_drewN _ _ _) (congrArg (World.drewN _) (Nat.add_assoc _ _ _))⟩)) | (go_at_call 31; (with_reducible refine (platenref05_pow.calls k (wrap64 (t191 + t192)) t196 _ A10.out).mono ?_); rintro e w' ⟨rfl, ⟨nd, rfl⟩⟩; (try first | exact ⟨rfl, _, World.drewN_drewN _ _ _⟩ | exact ⟨rfl, _, Eq.trans (World.drewN_drewN _ _ _) (congrArg (World.drewN _) (Nat.add_assoc _ _ _))⟩))))
      (try simp only [Act.put, List.setIfInBounds_toArray, List.set_cons_zero, List.set_cons_succ])
      by_cases c13 : (Int.tmod a0 t194) = 0
      ·rw [if_pos c13] at H
       obtain ⟨c13b0, c13b1⟩ := eT c13
       clear c13
       try first | rw [c13b0] | rw [c13b1]
       simp only [Option.some.injEq, Prod.mk.injEq] at H
       obtain ⟨rfl, rfl, rfl, rfl⟩ := H
       go_wp2
       repeat (go_quiet (fail); try go_wp2)
       refine bodyPost_ret (results_list (rs := [.tmp 4, .tmp 5, .tmp 6, .tmp 7]) rfl (by simp) (.tmp (.tmp (.tmp (.tmp .nil))))) rfl ?_
       exact ⟨by first | rfl | (simp; done) | (simp [*]; done), by repeat (first | exact Drawn0.refl _ | apply Drawn0.step)⟩
      ·rw [if_neg c13] at H
       obtain ⟨c13b0, c13b1⟩ := eF c13
       try first | rw [c13b0] | rw [c13b1]
       simp only [Option.some.injEq, Prod.mk.injEq] at H
       obtain ⟨rfl, rfl, rfl, rfl⟩ := H
       go_wp2
       repeat (go_quiet (fail); try go_wp2)
       refine bodyPost_ret (results_list (rs := [.tmp 4, .tmp 5, .tmp 6, .tmp 7]) rfl (by simp) (.tmp (.tmp (.tmp (.tmp .nil))))) rfl ?_
       exact ⟨by first | rfl | (simp; done) | (simp [*]; done), by repeat (first | exact Drawn0.refl _ | apply Drawn0.step)⟩
     ·rw [if_neg c12] at H
      obtain ⟨c12b0, c12b1⟩ := eF c12
      by_cases c14 : (wrap64 (Int.tmod (IntKind.u64.wrap (Int.tdiv a0 t194)) t195)) = 0
      ·rw [if_pos c14] at H
       obtain ⟨c14b0, c14b1⟩ := eT c14
       clear c14
       simp only [Option.some.injEq, Prod.mk.injEq] at H
       obtain ⟨rfl, rfl, rfl, rfl⟩ := H
       go_wp2_with (first | (go_at_call 30; (with_reducible refine (platenref05_Shape.calls a1 t191 t192 t193 _ A5.out).mono ?_); rintro e w' ⟨rfl, ⟨nd, rfl⟩⟩; (try first | exact ⟨rfl, _, World.drewN_drewN _ _ _⟩ | exact ⟨rfl, _, Eq.trans (World.drewN_drewN _ _ _) (congrArg (World.drewN _) (Nat.add_assoc _ _ _))⟩)) | (go_at_call 31; (with_reducible refine (platenref05_pow.calls k t191 t194 _ A6.out).mono ?_); rintro e w' ⟨rfl, ⟨nd, rfl⟩⟩; (try first | exact ⟨rfl, _, World.drewN_drewN _ _ _⟩ | exact ⟨rfl, _, Eq.trans (World.drewN_drewN _ _ _) (congrArg (World.drewN _) (Nat.add_assoc _ _ _))⟩)) | (go_at_call 31; (with_reducible refine (platenref05_pow.calls k t192 t195 _ A8.out).mono ?_); rintro e w' ⟨rfl, ⟨nd, rfl⟩⟩; (try first | exact ⟨rfl, _, World.drewN_drewN _ _ _⟩ | exact ⟨rfl, _, Eq.trans (World.drewN_drewN _ _ _) (congrArg (World.drewN _) (Nat.add_assoc _ _ _))⟩)) | (go_at_call 31; (with_reducible refine (platenref05_pow.calls k (wrap64 (t191 + t192)) t196 _ A10.out).mono ?_); rintro e w' ⟨rfl, ⟨nd, rfl⟩⟩; (try first | exact ⟨rfl, _, World.drewN_drewN _ _ _⟩ | exact ⟨rfl, _, Eq.trans (World.drewN_drewN _ _ _) (congrArg (World.drewN _) (Nat.add_assoc _ _ _))⟩)))
       repeat (go_quiet (first | (go_at_call 30; (with_reducible refine (platenref05_Shape.calls a1 t191 t192 t193 _ A5.out).mono ?_); rintro e w' ⟨rfl, ⟨nd, rfl⟩⟩; (try first | exact ⟨rfl, _, World.drewN_drewN _ _ _⟩ | exact ⟨rfl, _, Eq.trans (World.drewN_drewN _ _ _) (congrArg (World.drewN _) (Nat.add_assoc _ _ _))⟩)) | (go_at_call 31; (with_reducible refine (platenref05_pow.calls k t191 t194 _ A6.out).mono ?_); rintro e w' ⟨rfl, ⟨nd, rfl⟩⟩; (try first | exact ⟨rfl, _, World.drewN_drewN _ _ _⟩ | exact ⟨rfl, _, Eq.trans (World.drewN_drewN _ _ _) (congrArg (World.drewN _) (Nat.add_assoc _ _ _))⟩)) | (go_at_call 31; (with_reducible refine (platenref05_pow.calls k t192 t195 _ A8.out).mono ?_); rintro e w' ⟨rfl, ⟨nd, rfl⟩⟩; (try first | exact ⟨rfl, _, World.drewN_drewN _ _ _⟩ | exact ⟨rfl, _, Eq.trans (World.drewN_drewN _ _ _) (congrArg (World.drewN _) (Nat.add_assoc _ _ _))⟩)) | (go_at_call 31; (with_reducible refine (platenref05_pow.calls k (wrap64 (t191 + t192)) t196 _ A10.out).mono ?_); rintro e w' ⟨rfl, ⟨nd, rfl⟩⟩; (try first | exact ⟨rfl, _, World.drewN_drewN _ _ _⟩ | exact ⟨rfl, _, Eq.trans (World.drewN_drewN _ _ _) (congrArg (World.drewN _) (Nat.add_assoc _ _ _))⟩))); try go_wp2_with (first | (go_at_call 30; (with_reducible refine (platenref05_Shape.calls a1 t191 t192 t193 _ A5.out).mono ?_); rintro e w' ⟨rfl, ⟨nd, rfl⟩⟩; (try first | exact ⟨rfl, _, World.drewN_drewN _ _ _⟩ | exact ⟨rfl, _, Eq.trans (World.drewN_drewN _ _ _) (congrArg (World.drewN _) (Nat.add_assoc _ _ _))⟩)) | (go_at_call 31; (with_reducible refine (platenref05_pow.calls k t191 t194 _ A6.out).mono ?_); rintro e w' ⟨rfl, ⟨nd, rfl⟩⟩; (try first | exact ⟨rfl, _, World.drewN_drewN _ _ _⟩ | exact ⟨rfl, _, Eq.trans (World.drewN_drewN _ _ _) (congrArg (World.drewN _) (Nat.add_assoc _ _ _))⟩)) | (go_at_call 31; (with_reducible refine (platenref05_pow.calls k t192 t195 _ A8.out).mono ?_); rintro e w' ⟨rfl, ⟨nd, rfl⟩⟩; (try first | exact ⟨rfl, _, World.drewN_drewN _ _ _⟩ | exact ⟨rfl, _, Eq.trans (World.drewN_drewN _ _ _) (congrArg (World.drewN _) (Nat.add_assoc _ _ _))⟩)) | (go_at_call 31; (with_reducible refine (platenref05_pow.calls k (wrap64 (t191 + t192)) t196 _ A10.out).mono ?_); rintro e w' ⟨rfl, ⟨nd, rfl⟩⟩; (try first | exact ⟨rfl, _, World.drewN_drewN _ _ _⟩ | exact ⟨rfl, _, Eq.trans (World.drewN_drewN _ _ _) (congrArg (World.drewN _) (Nat.add_assoc _ _ _))⟩))))
       refine bodyPost_ret (results_list (rs := [.tmp 4, .tmp 5, .tmp 6, .tmp 7]) rfl (by simp) (.tmp (.tmp (.tmp (.tmp .nil))))) rfl ?_
       exact ⟨by first | rfl | (simp; done) | (simp [*]; done), by repeat (first | exact Drawn0.refl _ | apply Drawn0.step)⟩
      ·rw [if_neg c14] at H
       obtain ⟨c14b0, c14b1⟩ := eF c14
       simp only [Option.some.injEq, Prod.mk.injEq] at H
       obtain ⟨rfl, rfl, rfl, rfl⟩ := H
       go_wp2_with (first | (go_at_call 30; (with_reducible refine (platenref05_Shape.calls a1 t191 t192 t193 _ A5.out).mono ?_); rintro e w' ⟨rfl, ⟨nd, rfl⟩⟩; (try first | exact ⟨rfl, _, World.drewN_drewN _ _ _⟩ | exact ⟨rfl, _, Eq.trans (World.drewN_drewN _ _ _) (congrArg (World.drewN _) (Nat.add_assoc _ _ _))⟩)) | (go_at_call 31; (with_reducible refine (platenref05_pow.calls k t191 t194 _ A6.out).mono ?_); rintro e w' ⟨rfl, ⟨nd, rfl⟩⟩; (try first | exact ⟨rfl, _, World.drewN_drewN _ _ _⟩ | exact ⟨rfl, _, Eq.trans (World.drewN_drewN _ _ _) (congrArg (World.drewN _) (Nat.add_assoc _ _ _))⟩)) | (go_at_call 31; (with_reducible refine (platenref05_pow.calls k t192 t195 _ A8.out).mono ?_); rintro e w' ⟨rfl, ⟨nd, rfl⟩⟩; (try first | exact ⟨rfl, _, World.drewN_drewN _ _ _⟩ | exact ⟨rfl, _, Eq.trans (World.drewN_drewN _ _ _) (congrArg (World.drewN _) (Nat.add_assoc _ _ _))⟩)) | (go_at_call 31; (with_reducible refine (platenref05_pow.calls k (wrap64 (t191 + t192)) t196 _ A10.out).mono ?_); rintro e w' ⟨rfl, ⟨nd, rfl⟩⟩; (try first | exact ⟨rfl, _, World.drewN_drewN _ _ _⟩ | exact ⟨rfl, _, Eq.trans (World.drewN_drewN _ _ _) (congrArg (World.drewN _) (Nat.add_assoc _ _ _))⟩)))
       repeat (go_quiet (first | (go_at_call 30; (with_reducible refine (platenref05_Shape.calls a1 t191 t192 t193 _ A5.out).mono ?_); rintro e w' ⟨rfl, ⟨nd, rfl⟩⟩; (try first | exact ⟨rfl, _, World.drewN_drewN _ _ _⟩ | exact ⟨rfl, _, Eq.trans (World.drewN_drewN _ _ _) (congrArg (World.drewN _) (Nat.add_assoc _ _ _))⟩)) | (go_at_call 31; (with_reducible refine (platenref05_pow.calls k t191 t194 _ A6.out).mono ?_); rintro e w' ⟨rfl, ⟨nd, rfl⟩⟩; (try first | exact ⟨rfl, _, World.drewN_drewN _ _ _⟩ | exact ⟨rfl, _, Eq.trans (World.drewN_drewN _ _ _) (congrArg (World.drewN _) (Nat.add_assoc _ _ _))⟩)) | (go_at_call 31; (with_reducible refine (platenref05_pow.calls k t192 t195 _ A8.out).mono ?_); rintro e w' ⟨rfl, ⟨nd, rfl⟩⟩; (try first | exact ⟨rfl, _, World.drewN_drewN _ _ _⟩ | exact ⟨rfl, _, Eq.trans (World.drewN_drewN _ _ _) (congrArg (World.drewN _) (Nat.add_assoc _ _ _))⟩)) | (go_at_call 31; (with_reducible refine (platenref05_pow.calls k (wrap64 (t191 + t192)) t196 _ A10.out).mono ?_); rintro e w' ⟨rfl, ⟨nd, rfl⟩⟩; (try first | exact ⟨rfl, _, World.drewN_drewN _ _ _⟩ | exact ⟨rfl, _, Eq.trans (World.drewN_drewN _ _ _) (congrArg (World.drewN _) (Nat.add_assoc _ _ _))⟩))); try go_wp2_with (first | (go_at_call 30; (with_reducible refine (platenref05_Shape.calls a1 t191 t192 t193 _ A5.out).mono ?_); rintro e w' ⟨rfl, ⟨nd, rfl⟩⟩; (try first | exact ⟨rfl, _, World.drewN_drewN _ _ _⟩ | exact ⟨rfl, _, Eq.trans (World.drewN_drewN _ _ _) (congrArg (World.drewN _) (Nat.add_assoc _ _ _))⟩)) | (go_at_call 31; (with_reducible refine (platenref05_pow.calls k t191 t194 _ A6.out).mono ?_); rintro e w' ⟨rfl, ⟨nd, rfl⟩⟩; (try first | exact ⟨rfl, _, World.drewN_drewN _ _ _⟩ | exact ⟨rfl, _, Eq.trans (World.drewN_drewN _ _ _) (congrArg (World.drewN _) (Nat.add_assoc _ _ _))⟩)) | (go_at_call 31; (with_reducible refine (platenref05_pow.calls k t192 t195 _ A8.out).mono ?_); rintro e w' ⟨rfl, ⟨nd, rfl⟩⟩; (try first | exact ⟨rfl, _, World.drewN_drewN _ _ _⟩ | exact ⟨rfl, _, Eq.trans (World.drewN_drewN _ _ _) (congrArg (World.drewN _) (Nat.add_assoc _ _ _))⟩)) | (go_at_call 31; (with_reducible refine (platenref05_pow.calls k (wrap64 (t191 + t192)) t196 _ A10.out).mono ?_); rintro e w' ⟨rfl, ⟨nd, rfl⟩⟩; (try first | exact ⟨rfl, _, World.drewN_drewN _ _ _⟩ | exact ⟨rfl, _, Eq.trans (World.drewN_drewN _ _ _) (congrArg (World.drewN _) (Nat.add_assoc _ _ _))⟩))))
       refine bodyPost_ret (results_list (rs := [.tmp 4, .tmp 5, .tmp 6, .tmp 7]) rfl (by simp) (.tmp (.tmp (.tmp (.tmp .nil))))) rfl ?_
       exact ⟨by first | rfl | (simp; done) | (simp [*]; done), by repeat (first | exact Drawn0.refl _ | apply Drawn0.step)⟩
 ·replace c4 := Bool.eq_false_iff.mpr c4
  subst c4
  replace H := hF H
  simp only [Option.some.injEq, Prod.mk.injEq] at H
  obtain ⟨rfl, rfl, rfl, rfl⟩ := H
  go_wp2
  repeat (go_quiet (fail); try go_wp2)
  refine bodyPost_ret (results_list (rs := [.tmp 4, .tmp 5, .tmp 6, .tmp 7]) rfl (by simp) (.tmp (.tmp (.tmp (.tmp .nil))))) rfl ?_
  exact ⟨by first | rfl | (simp; done) | (simp [*]; done), by repeat (first | exact Drawn0.refl _ | apply Drawn0.step)⟩
end Go.Proofs.YtmeapdchnnpceaaDoor.Fn
end
section
namespace Go.Proofs.YtmeapdchnnpceaaDoor.Fn
open Go.RowKit Go.Proofs.YtmeapdchnnpceaaDoorW.PrintWords Go.Proofs.YtmeapdchnnpceaaDoorW.PrintLast Go.Proofs.YtmeapdchnnpceaaDoorW.PrintMore
attribute [local go_sem] min2_int min_two
set_option linter.unusedVariables false
set_option linter.unusedSimpArgs false
def platenref05_Bare.f (k : Nat) (a0 : Int) (a1 : Int) : Option (Int) := (platenref05_Shape.f a1).bind fun bt432 => ((platenref05_pow.f k (wrap64 (bt432.1 + bt432.2.1))).bind fun t435 => (if t435 = 0 then (none) else (some (Int.tmod a0 t435))))
set_option maxHeartbeats 8000000 in
set_option maxRecDepth 100000 in
theorem platenref05_Bare.calls (k : Nat) (a0 : Int) (a1 : Int) (r : Int) (w : World) (h : platenref05_Bare.f k a0 a1 = some r) :
  Calls Tryd.prog 44 #[.int .u64 a0, .int .i64 a1] w fun e w' => e = .returned (.int .u64 r) ∧ Drawn0 w w' := by
 have H : ((platenref05_Shape.f a1).bind fun bt432 => ((platenref05_pow.f k (wrap64 (bt432.1 + bt432.2.1))).bind fun t435 => (if t435 = 0 then (none) else (some (Int.tmod a0 t435))))) = some r := h
 clear h
 replace H := bs H
 obtain ⟨⟨t432, t433, t434⟩, A3, H⟩ := H
 dsimp only at H
 replace H := bs H
 obtain ⟨t435, A4, H⟩ := H
 by_cases c5 : t435 = 0
 ·rw [if_pos c5] at H
  exact absurd H (by simp)
 ·rw [if_neg c5] at H
  obtain ⟨c5b0, c5b1⟩ := eF c5
  obtain rfl := Option.some.inj H
  go_enter Tryd.func44, Tryd.ntmps44
  go_wp2_with (first | ((with_reducible refine gate_callee (f := 30) rfl ?_); refine goesL_ (some 10) rfl rfl Tryd.func30 (by kernel_rfl) rfl #[.int .i64 a1] rfl lz ?_; (with_reducible refine (platenref05_Shape.calls a1 t432 t433 t434 _ A3.out).mono ?_); rintro e w' ⟨rfl, ⟨nd, rfl⟩⟩; refine ⟨_, rfl, ?_⟩) | ((with_reducible refine gate_callee (f := 31) rfl ?_); refine goesL_ (some 18) rfl rfl Tryd.func31 (by kernel_rfl) rfl #[.int .i64 (wrap64 (t432 + t433))] rfl lz ?_; (with_reducible refine (platenref05_pow.calls k (wrap64 (t432 + t433)) t435 _ A4.out).mono ?_); rintro e w' ⟨rfl, ⟨nd, rfl⟩⟩; refine ⟨_, rfl, ?_⟩))
  go_ret
  exact ⟨by first | rfl | (simp; done) | (simp [*]; done), by repeat (first | exact Drawn0.refl _ | apply Drawn0.step)⟩
end Go.Proofs.YtmeapdchnnpceaaDoor.Fn
end
section
namespace Go.Proofs.YtmeapdchnnpceaaDoor.Pure
open Go.RowKit Go.Proofs.YtmeapdchnnpceaaDoor.Fn Go.Proofs.YtmeapdchnnpceaaDoorW.PrintWords
set_option linter.unusedVariables false
set_option linter.unusedSimpArgs false
def szB (wide : Bool) : Int := if wide then 64 else 32
def ff (wide : Bool) : Nat := if wide then 52 else 23
def ll (wide : Bool) : Nat := if wide then 1074 else 149
def ii (wide : Bool) : Nat := if wide then 9218868437227405312 else 2139095040
def tt (wide : Bool) : Nat := if wide then 9223372036854775808 else 2147483648
theorem size_two {n : Int} (h : n = 32 ∨ n = 64) : ∃ wide, n = szB wide := by
  rcases h with rfl | rfl
  · exact ⟨false, rfl⟩
  · exact ⟨true, rfl⟩
theorem of_eq' (wide : Bool) : short_of.f (szB wide) = some ((ff wide : Int), -(ll wide : Int), (ii wide : Int), true) := by
  cases wide <;> simp [short_of.f, szB, ff, ll, ii]
theorem of_no {n : Int} (h1 : n ≠ 32) (h2 : n ≠ 64) : short_of.f n = some (0, 0, 0, false) := by
  unfold short_of.f
  rw [if_neg h1, if_neg h2]
theorem and_mask (j p : Nat) (hj : j ≤ 64) (hp : p < 18446744073709551616) : Go.bits .and .u64 (p : Int) ((2 ^ j - 1 : Nat) : Int) = ((p % 2 ^ j : Nat) : Int) := by
  have h2 : 2 ^ j ≤ 2 ^ 64 := Nat.pow_le_pow_right (by omega) hj
  have hpos : 0 < 2 ^ j := Nat.pow_pos (by omega)
  have e : (2 : Nat) ^ 64 = 18446744073709551616 := by decide
  rw [u64_and_nat _ _ hp (by omega), Nat.and_two_pow_sub_one_eq_mod]
theorem or_add (j x : Nat) (hj : j ≤ 63) (hx : x < 2 ^ j) : Go.bits .or .u64 (x : Int) ((2 ^ j : Nat) : Int) = ((x + 2 ^ j : Nat) : Int) := by
  have h2 : 2 ^ j ≤ 2 ^ 63 := Nat.pow_le_pow_right (by omega) hj
  have e : (2 : Nat) ^ 63 = 9223372036854775808 := by decide
  rw [u64_or_nat _ _ (by omega) (by omega), Nat.or_comm]
  have := Nat.two_pow_add_eq_or_of_lt hx 1
  rw [Nat.mul_one] at this
  rw [← this, Nat.add_comm]
theorem ff_lt (wide : Bool) : ff wide ≤ 52 := by cases wide <;> simp [ff]
theorem shr_eq (p j : Nat) (hj : j ≤ 64) : shr .u64 (p : Int) (j : Int) = ((p / 2 ^ j : Nat) : Int) := by
  unfold shr
  rw [Int.toNat_natCast, show min j (IntKind.u64.bits) = j from Nat.min_eq_left (by simpa [IntKind.bits] using hj)]
  simp
theorem shl_one (j : Nat) (hj : j ≤ 63) : shl .u64 1 (j : Int) = ((2 ^ j : Nat) : Int) := by
  have h2 : 2 ^ j ≤ 2 ^ 63 := Nat.pow_le_pow_right (by omega) hj
  have e : (2 : Nat) ^ 63 = 9223372036854775808 := by decide
  unfold shl
  rw [Int.toNat_natCast, show min j (IntKind.u64.bits) = j from Nat.min_eq_left (by simp [IntKind.bits]; omega), Int.one_mul]
  rw [show ((2 : Int) ^ j) = ((2 ^ j : Nat) : Int) by simp]
  generalize 2 ^ j = P at *
  exact u64_id (by omega) (by omega)
theorem mask_one (j : Nat) (hj : j ≤ 63) : IntKind.u64.wrap (shl .u64 1 (j : Int) - 1) = ((2 ^ j - 1 : Nat) : Int) := by
  have hpos : 0 < 2 ^ j := Nat.pow_pos (by omega)
  have h2 : 2 ^ j ≤ 2 ^ 63 := Nat.pow_le_pow_right (by omega) hj
  have e : (2 : Nat) ^ 63 = 9223372036854775808 := by decide
  rw [shl_one j hj]
  generalize 2 ^ j = P at *
  rw [u64_id (x := (P : Int) - 1) (by omega) (by omega)]
  omega
theorem value_eq (wide : Bool) (p : Nat) (hp : p < 9223372036854775808) :
    short_shape_value.f (ff wide : Int) (-(ll wide : Int)) (ii wide : Int) (p : Int) = some ((fM (ff wide) p : Int), (fE (ff wide) p : Int) - (ll wide : Int)) := by
  have hf := ff_lt wide
  have hl : ll wide ≤ 1074 := by cases wide <;> simp [ll]
  unfold short_shape_value.f
  rw [if_pos (by omega), shr_eq p _ (by omega), mask_one _ (by omega), and_mask _ _ (by omega) (by omega), shl_one _ (by omega)]
  have hd : p / 2 ^ ff wide ≤ p := Nat.div_le_self _ _
  unfold fM fE
  have hpos : 0 < 2 ^ ff wide := Nat.pow_pos (by omega)
  have hm := Nat.mod_lt p hpos
  by_cases c : p / 2 ^ ff wide = 0
  · rw [if_pos c, c, if_pos (by simp [wrap64])]
    congr 2
    omega
  · rw [if_neg c, or_add _ _ (by omega) hm]
    generalize p / 2 ^ ff wide = q at *
    rw [if_neg (by rw [wrap_id (by omega) (by omega)]; omega), wrap_id (x := (q : Int)) (by omega) (by omega), wrap_id (x := -(ll wide : Int) + (q : Int)) (by omega) (by omega), wrap_id (by omega) (by omega)]
    congr 2
    omega
def bareN (wide : Bool) (a : Nat) : Nat := a % tt wide
def partsS (wide : Bool) (a : Nat) : Bool × Int × Int × Int :=
  ((a / tt wide % 2 == 1 : Bool), if bareN wide a < ii wide then ((fM (ff wide) (bareN wide a) : Int), (fE (ff wide) (bareN wide a) : Int) - (ll wide : Int), 0) else (0, 0, if bareN wide a = ii wide then 1 else 2))
theorem tt_pow (wide : Bool) : ∃ j : Nat, j ≤ 63 ∧ tt wide = 2 ^ j ∧ wrap64 (szB wide - 1) = (j : Int) := by
  cases wide
  · exact ⟨31, by omega, by decide, by simp [szB, wrap64]⟩
  · exact ⟨63, by omega, by decide, by simp [szB, wrap64]⟩
theorem tt_le (wide : Bool) : 0 < tt wide ∧ tt wide ≤ 9223372036854775808 := by cases wide <;> simp [tt]
theorem ii_lt (wide : Bool) : 0 < ii wide ∧ ii wide < tt wide ∧ ii wide ≤ 9218868437227405312 := by cases wide <;> simp [ii, tt]
theorem neg_eq (wide : Bool) (x : Nat) : (((x % 2 : Nat) : Int) == 1) = (x % 2 == 1 : Bool) := by
  rw [Bool.eq_iff_iff]
  simp
  omega
theorem parts_eq (wide : Bool) (a : Nat) (ha : a < 18446744073709551616) : short_Parts.f (a : Int) (szB wide) = some (partsS wide a) := by
  obtain ⟨j, hj, ht, hw⟩ := tt_pow wide
  have hmt := Nat.mod_lt a (tt_le wide).1
  have htt := (tt_le wide).2
  unfold short_Parts.f
  rw [of_eq']
  simp only [Option.bind_some]
  rw [if_pos trivial, hw, if_pos (by omega), mask_one _ hj, and_mask _ _ (by omega) ha, ← ht, shr_eq _ _ (by omega), ← ht]
  rw [show (1 : Int) = ((2 ^ 1 - 1 : Nat) : Int) from rfl, and_mask _ _ (by omega) (Nat.lt_of_le_of_lt (Nat.div_le_self _ _) ha), value_eq wide _ (by omega)]
  simp only [Option.bind_some]
  unfold partsS bareN
  rw [show (((2 ^ 1 - 1 : Nat)) : Int) = 1 from rfl, show (2 : Nat) ^ 1 = 2 from rfl, neg_eq wide]
  generalize a % tt wide = p at *
  by_cases c1 : p = ii wide
  · rw [if_pos (by omega), if_neg (by omega), if_pos c1]
  · rw [if_neg (by omega)]
    by_cases c2 : p < ii wide
    · rw [if_neg (by omega), if_pos c2]
    · rw [if_pos (by omega), if_neg c2, if_neg c1]
theorem pow_l0 (n : Nat) (hn : n ≤ 63) : ∀ d i : Nat, i + d = n → Ev (fun k => platenref05_pow.l0 k (n : Int) ((2 ^ i : Nat) : Int) (i : Int)) ((2 ^ n : Nat) : Int) := by
  intro d
  induction d with
  | zero =>
    intro i hi
    obtain rfl : i = n := by omega
    refine Ev.step (f := fun _ => some ((2 ^ i : Nat) : Int)) (fun k => ?_) (Ev.now _)
    simp only [platenref05_pow.l0]
    rw [if_neg (by omega)]
  | succ d ih =>
    intro i hi
    have h2 : 2 ^ (i + 1) ≤ 2 ^ 63 := Nat.pow_le_pow_right (by omega) (by omega)
    have e : (2 : Nat) ^ 63 = 9223372036854775808 := by decide
    refine Ev.step (f := fun k => platenref05_pow.l0 k (n : Int) ((2 ^ (i + 1) : Nat) : Int) ((i + 1 : Nat) : Int)) (fun k => ?_) (ih (i + 1) (by omega))
    simp only [platenref05_pow.l0]
    rw [if_pos (by omega), wrap_id (by omega) (by omega)]
    rw [Nat.pow_succ] at h2 ⊢
    generalize 2 ^ i = P at *
    rw [u64_id (by omega) (by omega)]
    congr 1
    omega
theorem pow_eq (n : Nat) (hn : n ≤ 63) : Ev (fun k => platenref05_pow.f k (n : Int)) ((2 ^ n : Nat) : Int) := pow_l0 n hn n 0 (by omega)
theorem sized_eq (wide : Bool) : platenref05_Sized.f (szB wide) = some true := by cases wide <;> simp [platenref05_Sized.f, szB]
theorem sized_no {n : Int} (h1 : n ≠ 32) (h2 : n ≠ 64) : platenref05_Sized.f n = some false := by
  unfold platenref05_Sized.f
  rw [if_neg h1]
  simp [h2]
def ww (wide : Bool) : Nat := if wide then 11 else 8
theorem shape_eq (wide : Bool) : platenref05_Shape.f (szB wide) = some ((ff wide : Int), (ww wide : Int), -(ll wide : Int)) := by cases wide <;> simp [platenref05_Shape.f, szB, ff, ll, ww]
theorem u64N (x : Nat) (h : x ≤ 18446744073709551615) : IntKind.u64.wrap (x : Int) = (x : Int) := u64_id (by omega) (by omega)
theorem i64N (x : Nat) (h : x ≤ 9223372036854775807) : wrap64 (x : Int) = (x : Int) := wrap_id (by omega) (by omega)
theorem tdivN (a b : Nat) : Int.tdiv (a : Int) (b : Int) = ((a / b : Nat) : Int) := by rw [tdiv_id (by omega)]; simp
theorem tmodN (a b : Nat) : Int.tmod (a : Int) (b : Int) = ((a % b : Nat) : Int) := by rw [tmod_id (by omega)]; simp
theorem ff_ww (wide : Bool) : 0 < 2 ^ ff wide ∧ 0 < 2 ^ ww wide ∧ 2 ^ ww wide ≤ 2048 ∧ 2 ^ ff wide ≤ 4503599627370496 ∧ tt wide = 2 ^ ff wide * 2 ^ ww wide ∧ ii wide = (2 ^ ww wide - 1) * 2 ^ ff wide ∧ ∃ j : Nat, j ≤ 63 ∧ wrap64 ((ff wide : Int) + (ww wide : Int)) = (j : Int) ∧ 2 ^ j = tt wide := by
  cases wide
  · exact ⟨by decide, by decide, by decide, by decide, by decide, by decide, 31, by omega, by simp [ff, ww, wrap64], by decide⟩
  · exact ⟨by decide, by decide, by decide, by decide, by decide, by decide, 63, by omega, by simp [ff, ww, wrap64], by decide⟩
theorem ww_le (wide : Bool) : ww wide ≤ 63 := by cases wide <;> simp [ww]
theorem ll_le (wide : Bool) : ll wide ≤ 1074 := by cases wide <;> simp [ll]
theorem rparts_eq (wide : Bool) (a : Nat) (ha : a < 18446744073709551616) : Ev (fun k => platenref05_Parts.f k (a : Int) (szB wide)) (partsS wide a) := by
  obtain ⟨hP0, hW0, hW, hP, hT, hI, j, hj, hfw, hjt⟩ := ff_ww wide
  have hf := ff_lt wide
  have hl := ll_le wide
  unfold platenref05_Parts.f
  rw [sized_eq, shape_eq]
  simp only [Option.bind_some, if_true]
  refine Ev.bind (pow_eq (ff wide) (by omega)) ?_
  refine Ev.congr (fun k => if_neg (by omega)) ?_
  refine Ev.bind (pow_eq (ww wide) (ww_le wide)) ?_
  refine Ev.congr (fun k => if_neg (by omega)) ?_
  rw [hfw]
  refine Ev.bind (pow_eq j hj) ?_
  refine Ev.congr (fun k => if_neg (by have := (tt_le wide).1; omega)) ?_
  refine Ev.congr (fun k => ?_) (Ev.now _)
  have e1 : bareN wide a / 2 ^ ff wide = a / 2 ^ ff wide % 2 ^ ww wide := by unfold bareN; rw [hT, Nat.mod_mul_right_div_self]
  have e2 : bareN wide a % 2 ^ ff wide = a % 2 ^ ff wide := by unfold bareN; rw [hT, Nat.mod_mul_right_mod]
  have hq : a / 2 ^ ff wide ≤ a := Nat.div_le_self _ _
  have hq2 : a / 2 ^ j ≤ a := Nat.div_le_self _ _
  rw [tdivN, tdivN, u64N (a / 2 ^ ff wide) (by omega), u64N (a / 2 ^ j) (by omega), tmodN, tmodN, ← e1, ← e2, show ((2 : Int)) = ((2 : Nat) : Int) from rfl, tmodN, neg_eq wide, hjt]
  unfold partsS fM fE
  have hlt : bareN wide a / 2 ^ ff wide < 2 ^ ww wide := by rw [e1]; exact Nat.mod_lt _ hW0
  have hm := Nat.mod_lt (bareN wide a) hP0
  have hd := Nat.div_add_mod (bareN wide a) (2 ^ ff wide)
  generalize bareN wide a / 2 ^ ff wide = d at *
  generalize bareN wide a % 2 ^ ff wide = m at *
  rw [wrap_id (x := (d : Int)) (by omega) (by omega), wrap_id (x := ((2 ^ ww wide : Nat) : Int)) (by omega) (by omega), wrap_id (x := ((2 ^ ww wide : Nat) : Int) - 1) (by omega) (by omega)]
  rw [← hd, hI]
  generalize 2 ^ ff wide = P at *
  generalize 2 ^ ww wide = W at *
  by_cases c1 : d = W - 1
  · have hdm : P * d = (W - 1) * P := by rw [c1, Nat.mul_comm]
    generalize (W - 1) * P = I at *
    have hge : ¬ (P * d + m < I) := by omega
    rw [if_pos (by omega), if_neg hge]
    by_cases c2 : m = 0
    · have h3 : P * d + m = I := by omega
      rw [if_pos (by omega), if_pos h3]
    · have h3 : ¬ (P * d + m = I) := by omega
      rw [if_neg (by omega), if_neg h3]
      rfl
  · rw [if_neg (by omega)]
    have hlt2 : P * d + m < (W - 1) * P := by
      have h1 : P * (d + 1) ≤ P * (W - 1) := Nat.mul_le_mul_left _ (by omega)
      rw [Nat.mul_add, Nat.mul_one] at h1
      rw [Nat.mul_comm (W - 1)]
      omega
    rw [if_pos hlt2]
    by_cases c2 : d = 0
    · have h6 : ((d - 1 : Nat) : Int) - (ll wide : Int) = -(ll wide : Int) := by omega
      rw [if_pos (by omega), if_pos c2, h6]
    · have h5 : ((m : Int) + (P : Int)) = ((m + P : Nat) : Int) := by omega
      have h6 : -(ll wide : Int) + (d : Int) - 1 = ((d - 1 : Nat) : Int) - (ll wide : Int) := by omega
      rw [if_neg (by omega), if_neg c2, h5, u64N (m + P) (by omega), wrap_id (x := -(ll wide : Int) + (d : Int)) (by omega) (by omega), wrap_id (by omega) (by omega), h6]
theorem bare_eq (wide : Bool) (a : Nat) : Ev (fun k => platenref05_Bare.f k (a : Int) (szB wide)) ((bareN wide a : Nat) : Int) := by
  obtain ⟨hP0, hW0, hW, hP, hT, hI, j, hj, hfw, hjt⟩ := ff_ww wide
  unfold platenref05_Bare.f
  rw [shape_eq]
  simp only [Option.bind_some]
  rw [hfw]
  refine Ev.bind (pow_eq j hj) ?_
  refine Ev.congr (fun k => if_neg (by have := (tt_le wide).1; omega)) ?_
  refine Ev.congr (fun k => ?_) (Ev.now _)
  rw [tmodN, hjt]
  rfl
end Go.Proofs.YtmeapdchnnpceaaDoor.Pure
end
section
namespace Go.Proofs.YtmeapdchnnpceaaDoor.Fn
open Go.RowKit Go.Proofs.YtmeapdchnnpceaaDoorW.PrintWords Go.Proofs.YtmeapdchnnpceaaDoorW.PrintLast Go.Proofs.YtmeapdchnnpceaaDoorW.PrintMore
attribute [local go_sem] min2_int min_two
set_option linter.unusedVariables false
set_option linter.unusedSimpArgs false
def short_cmp.f (k : Nat) (a0_0 : ByteArray) (a0_1 : Int) (a1_0 : ByteArray) (a1_1 : Int) : Option (Int) := (bigdec_Cmp.f k a0_0 a0_1 a1_0 a1_1).bind fun bt138 => (some bt138.1)
set_option maxHeartbeats 8000000 in
set_option maxRecDepth 100000 in
theorem short_cmp.calls (k : Nat) (a0_0 : ByteArray) (a0_1 : Int) (a1_0 : ByteArray) (a1_1 : Int) (r : Int) (w : World) (h : short_cmp.f k a0_0 a0_1 a1_0 a1_1 = some r) :
  Calls Tryd.prog 34 #[.agg #[.string a0_0, .int .i64 a0_1], .agg #[.string a1_0, .int .i64 a1_1]] w fun e w' => e = .returned (.int .i64 r) ∧ Below w.heap.size w w' := by
 have hu28 := Tryd.underlying28
 have HB := Aside0.mk (Below.refl w.heap.size w)
 have H : ((bigdec_Cmp.f k a0_0 a0_1 a1_0 a1_1).bind fun bt138 => (some bt138.1)) = some r := h
 clear h
 replace H := bs H
 obtain ⟨⟨t138, t139⟩, A3, H⟩ := H
 dsimp only at H
 obtain rfl := Option.some.inj H
 go_enter Tryd.func34, Tryd.ntmps34
 go_wp2_with (first | ((with_reducible refine gate_dst (N := 2) rfl ?_); refine box_event rfl (N := 2) rfl (cs := #[.string a0_0, .int .i64 a0_1]) (t := 28) gz ?_; intro gb136 hg w4 hbox hb; have GE136 := gN bz hg; have BK136 := Aside0.mk hbox; replace HB := bN bz hb; clear hb hbox hg) | ((with_reducible refine gate_dst (N := 3) rfl ?_); refine box_event rfl (N := 3) rfl (cs := #[.string a1_0, .int .i64 a1_1]) (t := 28) gz ?_; intro gb137 hg w5 hbox hb; have GE137 := gN bz hg; have NB136_137 := lN (g := gb136) (cs := #[.string a0_0, .int .i64 a0_1]) hg bk; have NB137_136 := rN (g := gb136) (cs := #[.string a0_0, .int .i64 a0_1]) hg bk; replace BK136 := kN (g := gb136) (cs := #[.string a0_0, .int .i64 a0_1]) hb bk; have BK137 := Aside0.mk hbox; replace HB := bN bz hb; clear hb hbox hg; have hnb6 := NB136_137.out; have hnc6 := NB137_136.out; obtain ⟨hcz7_0, hcz7_1, hfz7_0, hfz7_1⟩ := cz2 (W := w5) BK136; obtain ⟨hcz8_0, hcz8_1, hfz8_0, hfz8_1⟩ := cz2 (W := w5) BK137) | ((with_reducible refine gate_callee (f := 26) rfl ?_); refine goesL_ (some 10) rfl rfl Tryd.func26 (by kernel_rfl) rfl #[.agg #[.string a0_0, .int .i64 a0_1], .agg #[.string a1_0, .int .i64 a1_1]] rfl lz ?_; (with_reducible refine (bigdec_Cmp.calls k a0_0 a0_1 a1_0 a1_1 t138 t139 _ A3.out).mono ?_); rintro e w9 ⟨rfl, hb⟩; refine ⟨_, rfl, ?_⟩; replace BK136 := kN (g := gb136) (cs := #[.string a0_0, .int .i64 a0_1]) hb bk; replace BK137 := kN (g := gb137) (cs := #[.string a1_0, .int .i64 a1_1]) hb bk; replace HB := bN bz hb; (try clear hb); (try clear hb2); (try clear hk); (try clear hi)))
 go_ret
 exact ⟨ez, bz⟩
end Go.Proofs.YtmeapdchnnpceaaDoor.Fn
end
section
namespace Go.Proofs.YtmeapdchnnpceaaDoor.Fn
open Go.RowKit Go.Proofs.YtmeapdchnnpceaaDoorW.PrintWords Go.Proofs.YtmeapdchnnpceaaDoorW.PrintLast Go.Proofs.YtmeapdchnnpceaaDoorW.PrintMore
attribute [local go_sem] min2_int min_two
set_option linter.unusedVariables false
set_option linter.unusedSimpArgs false
mutual
def platenref05_less.j0 : Nat → List Int → List Int → Int → Option (Bool)
 | 0, _, _, _ => none
 | k + 1, x0, x1, x5 => platenref05_less.l0 k x0 x1 (wrap64 (x5 - 1))
def platenref05_less.l0 : Nat → List Int → List Int → Int → Option (Bool)
 | 0, _, _, _ => none
 | k + 1, x0, x1, x6 => if x6 ≥ 0 then (if x6 < (x0.length : Int) then (if 0 ≤ x6 then (platenref05_less.j2 k x0 x1 x6 (rd x0 x6) 0) else (none)) else (platenref05_less.j2 k x0 x1 x6 0 0)) else (some false)
def platenref05_less.j2 : Nat → List Int → List Int → Int → Int → Int → Option (Bool)
 | 0, _, _, _, _, _ => none
 | k + 1, x0, x1, x6, x7, x8 => if x6 < (x1.length : Int) then (if 0 ≤ x6 then (if x7 = (rd x1 x6) then (platenref05_less.l0 k x0 x1 (wrap64 (x6 - 1))) else (some (decide (x7 < (rd x1 x6))))) else (none)) else (if x7 = x8 then (platenref05_less.l0 k x0 x1 (wrap64 (x6 - 1))) else (some (decide (x7 < x8))))
end
def platenref05_less.f (k : Nat) (l0 : List Int) (l1 : List Int) : Option (Bool) := if (l1.length : Int) > (l0.length : Int) then (platenref05_less.j0 k l0 l1 (l1.length : Int)) else (platenref05_less.j0 k l0 l1 (l0.length : Int))
set_option maxHeartbeats 8000000 in
set_option maxRecDepth 100000 in
theorem platenref05_less.calls (k : Nat) (A0 : Option Addr) (c0 : Nat) (l0 : List Int) (A1 : Option Addr) (c1 : Nat) (l1 : List Int) (r : Bool) (w : World) (hr0 : Kd.C (Kd.int .u8) w A0 l0.length l0) (hc0 : l0.length ≤ c0) (hr1 : Kd.C (Kd.int .u8) w A1 l1.length l1) (hc1 : l1.length ≤ c1) (h : platenref05_less.f k l0 l1 = some r) :
  Calls Tryd.prog 40 #[.slice A0 l0.length c0, .slice A1 l1.length c1] w fun e w' => e = .returned (.bool r) ∧ Drawn0 w w' := by
 have HR0 := Aside0.mk hr0
 have HC0 := Aside0.mk hc0
 clear hr0 hc0
 have HR1 := Aside0.mk hr1
 have HC1 := Aside0.mk hc1
 clear hr1 hc1
 have H : (if (l1.length : Int) > (l0.length : Int) then (platenref05_less.j0 k l0 l1 (l1.length : Int)) else (platenref05_less.j0 k l0 l1 (l0.length : Int))) = some r := h
 clear h
 have HC3 := Aside0.mk H
 clear H
 go_enter Tryd.func40, Tryd.ntmps40
 go_upto_if 14 with (fail)
 go_cut [5] (fun v5 wc => ∃ (kq : Nat) (x5_2 : Int), v5 = .int .i64 x5_2 ∧ Aside0 (platenref05_less.j0 kq l0 l1 x5_2 = some r) ∧ Aside0 (kq ≤ k) ∧ Drawn0 w wc)
 case first =>
  have H := HC3.out
  clear HC3
  by_cases c4 : (l1.length : Int) > (l0.length : Int)
  ·rw [if_pos c4] at H
   have c4b0 : decide ((l0.length : Int) < (l1.length : Int)) = true := decide_eq_true c4
   have c4b1 : decide (l0.length < l1.length) = true := decide_eq_true (Int.ofNat_lt.mp c4)
   clear c4
   try first | rw [c4b0] | rw [c4b1]
   have H' := Aside0.mk H
   clear H
   go_wp2
   go_meet
   case rel => exact ⟨_, ((l1.length : Int)), rz, H', ⟨by first | omega | exact Nat.le_refl _⟩, by repeat (first | exact Drawn0.refl _ | apply Drawn0.step)⟩
  ·rw [if_neg c4] at H
   have c4b0 : decide ((l0.length : Int) < (l1.length : Int)) = false := decide_eq_false c4
   have c4b1 : decide (l0.length < l1.length) = false := decide_eq_false (fun h => c4 (Int.ofNat_lt.mpr h))
   clear c4
   try first | rw [c4b0] | rw [c4b1]
   have H' := Aside0.mk H
   clear H
   go_wp2
   go_meet
   case rel => exact ⟨_, ((l0.length : Int)), rz, H', ⟨by first | omega | exact Nat.le_refl _⟩, by repeat (first | exact Drawn0.refl _ | apply Drawn0.step)⟩
 case rest =>
  clear HC3
  try clear c1
  try clear c4
  try clear c4b0
  try clear c4b1
  obtain ⟨kq, x5_2, rfl, HA, HJ2, ⟨mc2, rfl⟩⟩ := hcut
  cases kq with
  | zero => exact absurd HA.out (by simp [platenref05_less.j0])
  | succ kj2 =>
   have H := HA.out
   clear HA
   simp only [platenref05_less.j0] at H
   have H' := Aside0.mk H
   clear H
   go_wp2
   go_loopg [6] kj2 (fun kq v6 w' => ∃ (x6_2 : Int), v6 = .int .i64 x6_2 ∧ Aside0 (platenref05_less.l0 kq l0 l1 x6_2 = some r) ∧ Aside0 (kq ≤ kj2) ∧ Drawn0 w w')
   case atStart => exact ⟨(wrap64 (x5_2 - 1)), rz, H', ⟨Nat.le_refl _⟩, by repeat (first | exact Drawn0.refl _ | apply Drawn0.step)⟩
   case round =>
    clear H'
    try clear c1
    try clear c4
    try clear c4b0
    try clear c4b1
    obtain ⟨x6_2, rfl, HA, HK2, ⟨m2, rfl⟩⟩ := hrel
    cases gk with
    | zero => exact absurd HA.out (by simp [platenref05_less.l0])
    | succ k2 =>
     have H := HA.out
     clear HA
     simp only [platenref05_less.l0] at H
     by_cases c5 : x6_2 ≥ 0
     ·rw [if_pos c5] at H
      have c5b0 : decide (0 ≤ x6_2) = true := decide_eq_true c5
      clear c5
      have HC6 := Aside0.mk H
      clear H
      go_upto_if 26 with (fail)
      go_cut [7] (fun v7 wc => ∃ (kq : Nat) (x7_5 : Int), v7 = .int .u8 x7_5 ∧ Aside0 (platenref05_less.j2 kq l0 l1 x6_2 x7_5 0 = some r) ∧ Aside0 (kq ≤ k2) ∧ Drawn0 w wc)
      case first =>
       have H := HC6.out
       clear HC6
       by_cases c7 : x6_2 < (l0.length : Int)
       ·rw [if_pos c7] at H
        have c7b0 := decide_eq_true c7
        clear c7
        try rw [c7b0]
        by_cases c8 : 0 ≤ x6_2
        ·rw [if_pos c8] at H
         have c8b0 := decide_eq_true c8
         clear c8
         have H' := Aside0.mk H
         clear H
         have p340 : 0 ≤ (x6_2 : Int) := of_decide_eq_true (by first | (with_reducible assumption) | assumption)
         have q340 : x6_2 < (l0.length : Int) := of_decide_eq_true (by first | (with_reducible assumption) | assumption)
         obtain ⟨ad340, e340, hx340_0⟩ := Kd.at_int HR0.out x6_2 p340 q340
         cases e340
         replace p340 := eq_true p340
         replace q340 := eq_true q340
         go_wp2
         go_meet
         case rel => exact ⟨_, (rd l0 x6_2), rz, H', ⟨by have := HJ2.out; have := HK2.out; first | omega | exact Nat.le_refl _⟩, by repeat (first | exact Drawn0.refl _ | apply Drawn0.step)⟩
        ·rw [if_neg c8] at H
         exact absurd H (by simp)
       ·rw [if_neg c7] at H
        have c7b0 := decide_eq_false c7
        clear c7
        try rw [c7b0]
        have H' := Aside0.mk H
        clear H
        go_wp2
        go_meet
        case rel => exact ⟨_, (0), rz, H', ⟨by have := HJ2.out; have := HK2.out; first | omega | exact Nat.le_refl _⟩, by repeat (first | exact Drawn0.refl _ | apply Drawn0.step)⟩
      case rest =>
       clear HC6
       try clear c1
       try clear c4
       try clear c4b0
       try clear c4b1
       try clear c5
       try clear c5b0
       try clear c7
       try clear c7b0
       try clear c8
       try clear c8b0
       try clear hx340_0
       try clear p340
       try clear q340
       obtain ⟨kq, x7_5, rfl, HA, HJ5, ⟨mc5, rfl⟩⟩ := hcut
       cases kq with
       | zero => exact absurd HA.out (by simp [platenref05_less.j2])
       | succ kj5 =>
        have H := HA.out
        clear HA
        simp only [platenref05_less.j2] at H
        by_cases c9 : x6_2 < (l1.length : Int)
        ·rw [if_pos c9] at H
         have c9b0 := decide_eq_true c9
         clear c9
         by_cases c10 : 0 ≤ x6_2
         ·rw [if_pos c10] at H
          have c10b0 := decide_eq_true c10
          clear c10
          by_cases c11 : x7_5 = (rd l1 x6_2)
          ·rw [if_pos c11] at H
           obtain ⟨c11b0, c11b1⟩ := eT c11
           clear c11
           have H' := Aside0.mk H
           clear H
           have p341 : 0 ≤ (x6_2 : Int) := of_decide_eq_true (by first | (with_reducible assumption) | assumption)
           have q341 : x6_2 < (l1.length : Int) := of_decide_eq_true (by first | (with_reducible assumption) | assumption)
           obtain ⟨ad341, e341, hx341_0⟩ := Kd.at_int HR1.out x6_2 p341 q341
           cases e341
           replace p341 := eq_true p341
           replace q341 := eq_true q341
           go_wp2
           go_roundg kj5
           case measure => have := HJ2.out; have := HK2.out; have := HJ5.out; omega
           case rel => exact ⟨(wrap64 (x6_2 - 1)), rz, H', ⟨by have := HJ2.out; have := HK2.out; have := HJ5.out; omega⟩, by repeat (first | exact Drawn0.refl _ | apply Drawn0.step)⟩
          ·rw [if_neg c11] at H
           obtain ⟨c11b0, c11b1⟩ := eF c11
           obtain rfl := Option.some.inj H
           have p341 : 0 ≤ (x6_2 : Int) := of_decide_eq_true (by first | (with_reducible assumption) | assumption)
           have q341 : x6_2 < (l1.length : Int) := of_decide_eq_true (by first | (with_reducible assumption) | assumption)
           obtain ⟨ad341, e341, hx341_0⟩ := Kd.at_int HR1.out x6_2 p341 q341
           cases e341
           replace p341 := eq_true p341
           replace q341 := eq_true q341
           go_wp2
           go_ret
           exact ⟨by first | rfl | (simp; done) | (simp [*]; done), by repeat (first | exact Drawn0.refl _ | apply Drawn0.step)⟩
         ·rw [if_neg c10] at H
          exact absurd H (by simp)
        ·rw [if_neg c9] at H
         have c9b0 := decide_eq_false c9
         clear c9
         by_cases c12 : x7_5 = 0
         ·rw [if_pos c12] at H
          obtain ⟨c12b0, c12b1⟩ := eT c12
          clear c12
          have H' := Aside0.mk H
          clear H
          go_wp2
          go_roundg kj5
          case measure => have := HJ2.out; have := HK2.out; have := HJ5.out; omega
          case rel => exact ⟨(wrap64 (x6_2 - 1)), rz, H', ⟨by have := HJ2.out; have := HK2.out; have := HJ5.out; omega⟩, by repeat (first | exact Drawn0.refl _ | apply Drawn0.step)⟩
         ·rw [if_neg c12] at H
          obtain ⟨c12b0, c12b1⟩ := eF c12
          obtain rfl := Option.some.inj H
          go_wp2
          go_ret
          exact ⟨by first | rfl | (simp; done) | (simp [*]; done), by repeat (first | exact Drawn0.refl _ | apply Drawn0.step)⟩
     ·rw [if_neg c5] at H
      have c5b0 : decide (0 ≤ x6_2) = false := decide_eq_false c5
      clear c5
      obtain rfl := Option.some.inj H
      go_wp2
      go_ret
      exact ⟨by first | rfl | (simp; done) | (simp [*]; done), by repeat (first | exact Drawn0.refl _ | apply Drawn0.step)⟩
end Go.Proofs.YtmeapdchnnpceaaDoor.Fn
end
section
namespace Go.Proofs.YtmeapdchnnpceaaDoor.Fn
open Go.RowKit Go.Proofs.YtmeapdchnnpceaaDoorW.PrintWords Go.Proofs.YtmeapdchnnpceaaDoorW.PrintLast Go.Proofs.YtmeapdchnnpceaaDoorW.PrintMore
attribute [local go_sem] min2_int min_two
set_option linter.unusedVariables false
set_option linter.unusedSimpArgs false
def platenref05_minus.l0 : Nat → List Int → Int → List Int → Int → Int → Option (List Int)
 | 0, _, _, _, _, _ => none
 | k + 1, x1, x6, x11, x13, x14 => if x14 < x13 then (if 0 ≤ x14 then (if x14 < (x11.length : Int) then (if x14 < (x1.length : Int) then (if (wrap64 ((wrap64 ((wrap64 (rd x11 x14)) - x6)) - (wrap64 (rd x1 x14)))) < 0 then (platenref05_minus.l0 k x1 1 (x11.set (x14 : Int).toNat ((wrap64 ((wrap64 ((wrap64 ((wrap64 (rd x11 x14)) - x6)) - (wrap64 (rd x1 x14)))) + 10)) % 256)) x13 (wrap64 (x14 + 1))) else (platenref05_minus.l0 k x1 0 (x11.set (x14 : Int).toNat ((wrap64 ((wrap64 ((wrap64 (rd x11 x14)) - x6)) - (wrap64 (rd x1 x14)))) % 256)) x13 (wrap64 (x14 + 1)))) else (if (wrap64 ((wrap64 (rd x11 x14)) - x6)) < 0 then (platenref05_minus.l0 k x1 1 (x11.set (x14 : Int).toNat ((wrap64 ((wrap64 ((wrap64 (rd x11 x14)) - x6)) + 10)) % 256)) x13 (wrap64 (x14 + 1))) else (platenref05_minus.l0 k x1 0 (x11.set (x14 : Int).toNat ((wrap64 ((wrap64 (rd x11 x14)) - x6)) % 256)) x13 (wrap64 (x14 + 1))))) else (none)) else (none)) else (some x11)
def platenref05_minus.f (k : Nat) (l0 : List Int) (l1 : List Int) : Option (List Int) := (some (([] : List Int) : List Int)).bind fun y342 => (if y342.length + l0.length < 140737488355328 then ((some (y342 ++ l0 : List Int)).bind fun y345 => (platenref05_minus.l0 k l1 0 y345 (y345.length : Int) 0)) else (none))
set_option maxHeartbeats 8000000 in
set_option maxRecDepth 100000 in
theorem platenref05_minus.calls (k : Nat) (A0 : Option Addr) (c0 : Nat) (l0 : List Int) (A1 : Option Addr) (c1 : Nat) (l1 : List Int) (r : List Int) (w : World) (hr0 : Kd.C (Kd.int .u8) w A0 l0.length l0) (hc0 : l0.length ≤ c0) (hr1 : Kd.C (Kd.int .u8) w A1 l1.length l1) (hc1 : l1.length ≤ c1) (h : platenref05_minus.f k l0 l1 = some r) :
  Calls Tryd.prog 55 #[.slice A0 l0.length c0, .slice A1 l1.length c1] w fun e w' => ∃ v0_ : Value, e = .returned (v0_) ∧ Kd.R (Kd.int .u8) 5 w' w.heap.size (fun _ => True) v0_ r ∧ Below w.heap.size w w' := by
 have HR0 := Aside0.mk hr0
 have HC0 := Aside0.mk hc0
 clear hr0 hc0
 have HR1 := Aside0.mk hr1
 have HC1 := Aside0.mk hc1
 clear hr1 hc1
 have HB := Aside0.mk (Below.refl w.heap.size w)
 have H : ((some (([] : List Int) : List Int)).bind fun y342 => (if y342.length + l0.length < 140737488355328 then ((some (y342 ++ l0 : List Int)).bind fun y345 => (platenref05_minus.l0 k l1 0 y345 (y345.length : Int) 0)) else (none))) = some r := h
 clear h
 obtain ⟨y342, hy342⟩ : ∃ y_ : List Int, y_ = (([] : List Int)) := ⟨_, rfl⟩
 replace H : (if y342.length + l0.length < 140737488355328 then ((some (y342 ++ l0 : List Int)).bind fun y345 => (platenref05_minus.l0 k l1 0 y345 (y345.length : Int) 0)) else (none)) = some r := by first | (rw [hy342]; with_reducible exact H) | (have H2_ := (Option.bind_some _ _).symm.trans H; rw [hy342]; with_reducible exact H2_) | (have H2_ := (Option.bind_some _ _).symm.trans H; with_reducible exact H2_) | with_reducible exact H | (rw [hy342]; exact H) | exact H
 have Ny342 := Aside0.mk hy342
 clear hy342
 by_cases c3 : y342.length + l0.length < 140737488355328
 ·rw [if_pos c3] at H
  have LMc3 := Aside0.mk c3
  clear c3
  obtain ⟨y345, hy345⟩ : ∃ y_ : List Int, y_ = (y342 ++ l0) := ⟨_, rfl⟩
  replace H : (platenref05_minus.l0 k l1 0 y345 (y345.length : Int) 0) = some r := by first | (rw [hy345]; with_reducible exact H) | (have H2_ := (Option.bind_some _ _).symm.trans H; rw [hy345]; with_reducible exact H2_) | (have H2_ := (Option.bind_some _ _).symm.trans H; with_reducible exact H2_) | with_reducible exact H | (rw [hy345]; exact H) | exact H
  have Ny345 := Aside0.mk hy345
  clear hy345
  have H' := Aside0.mk H
  clear H
  go_enter Tryd.func55, Tryd.ntmps55
  go_wp2_with (first | ((with_reducible refine gate_dst (N := 9) rfl ?_); refine Kd.R_lit (Kd.int .u8) _ 5 ?hg (N := 9) ?hd (xs := ([] : List Int)) (inner := []) (ok := fun _ => True) (okp := fun _ => True) ?hr ?hp (fun _ hk => hk) trivial (Below.refl _ _) (Nat.le_refl _) (by simp) ?_; (case hd => rfl); (case hg => rfl); (case hr => first | (go_simp; done) | (go_simp; rfl)); (case hp => exact (Reps.none _ _)); intro v343 w4 ho5 hb hg_ hnew_; clear hg_ hnew_; (first | rw [← Ny342.out] at ho5 | (simp only [Int.reduceToNat] at ho5; rw [← Ny342.out] at ho5)); have n0_ := Aside0.mk (Kd.R_lower ho5 (below_size bz)); have n1_ := Aside0.mk (below_step bz hb); clear HB; have HO344 := n0_; have HB := n1_; clear n0_ n1_; clear hb ho5) | ((with_reducible refine gate_builtin (b := .append) (xs := #[.tmp 9, .tmp 10]) rfl ?_); at_builtin; refine Kd.R_append_rows (Kd.int .u8) (w0 := w) w.heap.size rfl (.tmp 9) (.tmp 10) 63 5 (.int .u8 0) 1 rfl Tryd.underlying63 info5 rfl (by decide) (by omega) v343 y342 l0 _ _ _ (fun _ => True) (fun _ => False) rfl rfl ?aO ?aR (fun _ _ h => h) (fun _ h => h.elim) ?aF ?aB ?aS ?aL ?_; (case aR => repeat (first | exact (Kd.C_below HR0.out HB.out) | (with_reducible refine Kd.C_alloc ?_ _) | (with_reducible refine Kd.C_drewN ?_ _) | (with_reducible refine Kd.C_drew ?_))); (case aB => exact bz); (case aF => exact (fun _ _ => trivial)); (case aO => exact (by (with_reducible repeat (first | apply Kd.R_alloc | apply Kd.R_drewN | apply Kd.R_drew)); exact HO344.out)); (case aS => exact (below_size bz)); (case aL => have := LMc3.out; omega); intro v346 w6 ho hb hg hat; rw [← Ny345.out] at ho; have n0_ := Aside0.mk (hb); have n1_ := Aside0.mk (ho); clear HB; clear HO344; have HB := n0_; have HO347 := n1_; clear n0_ n1_; clear ho hb hg hat; obtain ⟨Ao7, co7, eo7⟩ := Kd.R_slice HO347.out; subst eo7))
  go_loopg [6, 14] k (fun kq v6 v14 w' => ∃ (x6_1 : Int) (x11_1 : List Int) (x14_1 : Int), v6 = .int .i64 x6_1 ∧ v14 = .int .i64 x14_1 ∧ Aside0 (platenref05_minus.l0 kq l1 x6_1 x11_1 (y345.length : Int) x14_1 = some r) ∧ Aside0 (kq ≤ k) ∧ Aside0 (Kd.R (Kd.int .u8) 5 w' w.heap.size (fun _ => True) (.slice Ao7 y345.length co7) x11_1) ∧ Aside0 (Below w.heap.size w w'))
  case atStart => exact ⟨(0), (y345), (0), rz, rz, H', ⟨Nat.le_refl _⟩, ⟨by (with_reducible repeat (first | apply Kd.R_alloc | apply Kd.R_drewN | apply Kd.R_drew)); exact HO347.out⟩, ⟨bz⟩⟩
  case round =>
   clear H'
   try clear c1
   try clear c3
   obtain ⟨x6_1, x11_1, x14_1, rfl, rfl, HA, HK1, HO_11, HB⟩ := hrel
   have hl11_1 := (Kd.R_reads' HO_11.out).1
   rw [hl11_1] at HO_11
   (try simp only [hl11_1])
   cases gk with
   | zero => exact absurd HA.out (by simp [platenref05_minus.l0])
   | succ k1 =>
    have H := HA.out
    clear HA
    simp only [platenref05_minus.l0] at H
    by_cases c8 : x14_1 < (y345.length : Int)
    ·rw [if_pos c8] at H
     have c8b0 := decide_eq_true c8
     (try (have c8b9 := c8b0; (first | rw [hl11_1] at c8b9); skip))
     clear c8
     by_cases c9 : 0 ≤ x14_1
     ·rw [if_pos c9] at H
      have c9b0 := decide_eq_true c9
      clear c9
      by_cases c10 : x14_1 < (x11_1.length : Int)
      ·rw [if_pos c10] at H
       have c10b0 := decide_eq_true c10
       (try (have c10b9 := c10b0; (first | rw [hl11_1] at c10b9); skip))
       clear c10
       by_cases c11 : x14_1 < (l1.length : Int)
       ·rw [if_pos c11] at H
        have c11b0 := decide_eq_true c11
        (try (have c11b9 := c11b0; (first | rw [hl11_1] at c11b9); skip))
        clear c11
        by_cases c12 : (wrap64 ((wrap64 ((wrap64 (rd x11_1 x14_1)) - x6_1)) - (wrap64 (rd l1 x14_1)))) < 0
        ·rw [if_pos c12] at H
         have c12b0 := decide_eq_true c12
         clear c12
         obtain ⟨y350, hy350⟩ : ∃ y_ : List Int, y_ = (x11_1.set (x14_1 : Int).toNat ((wrap64 ((wrap64 ((wrap64 ((wrap64 (rd x11_1 x14_1)) - x6_1)) - (wrap64 (rd l1 x14_1)))) + 10)) % 256)) := ⟨_, rfl⟩
         replace H : (platenref05_minus.l0 k1 l1 1 y350 (y345.length : Int) (wrap64 (x14_1 + 1))) = some r := by first | (rw [hy350]; with_reducible exact H) | (have H2_ := (Option.bind_some _ _).symm.trans H; rw [hy350]; with_reducible exact H2_) | (have H2_ := (Option.bind_some _ _).symm.trans H; with_reducible exact H2_) | with_reducible exact H | (rw [hy350]; exact H) | exact H
         have Ny350 := Aside0.mk hy350
         clear hy350
         have H' := Aside0.mk H
         clear H
         have p348 : 0 ≤ (x14_1 : Int) := of_decide_eq_true (by first | (with_reducible assumption) | assumption)
         have q348 : x14_1 < (x11_1.length : Int) := of_decide_eq_true (by first | (with_reducible assumption) | assumption)
         obtain ⟨ad348, e348, hx348_0⟩ := Kd.at_int (Kd.R_reads' HO_11.out).2.2 x14_1 p348 q348
         cases e348
         replace p348 := eq_true p348
         replace q348 := eq_true q348
         have p349 : 0 ≤ (x14_1 : Int) := of_decide_eq_true (by first | (with_reducible assumption) | assumption)
         have q349 : x14_1 < (l1.length : Int) := of_decide_eq_true (by first | (with_reducible assumption) | assumption)
         obtain ⟨ad349, e349, hx349_0⟩ := Kd.at_int HR1.out x14_1 p349 q349
         cases e349
         replace hx349_0 := (HB.out.cell (World.block_lt_of_cell? w _ hx349_0)).trans hx349_0
         replace p349 := eq_true p349
         replace q349 := eq_true q349
         have p13 : 0 ≤ (x14_1 : Int) := of_decide_eq_true (by first | (with_reducible assumption) | assumption)
         have q13 : (x14_1 : Int) < ((x11_1.length : Int) : Int) := of_decide_eq_true (by first | (with_reducible assumption) | assumption)
         obtain ⟨go13, co13, eo13, gb13, gl13, cl13, HG13⟩ := Kd.R_form HO_11.out (by omega)
         (first | cases eo13 | (injection eo13 with ea_ en_ ec_; (first | subst ea_ | (injection ea_ with ea_; subst ea_)); subst ec_; clear en_))
         have GB13 := Aside0.mk gb13
         have GG13 := Aside0.mk HG13
         clear gb13 gl13 HG13
         (first | simp only [add_plain] at hx348_0 | skip)
         obtain ⟨hx13_0, hf13_0⟩ := Kd.R_celln 0 HO_11.out (x14_1 : Int) p13 q13
         replace p13 := eq_true p13
         replace q13 := eq_true q13
         have HP14 := Kd.R_putg HO_11.out (x14_1 : Int) ((wrap64 ((wrap64 ((wrap64 ((wrap64 (rd x11_1 x14_1)) - x6_1)) - (wrap64 (rd l1 x14_1)))) + 10)) % 256)
         go_wp2_with (first | ((with_reducible refine gate_store (t := 5) (p := 43) rfl ?_); refine store_event (t := 5) (p := 43) (v := ?vo_w15) (w1 := (wr.setCell ⟨go13, (x14_1 : Int).toNat, none⟩ (.int .u8 ((wrap64 ((wrap64 ((wrap64 ((wrap64 (rd x11_1 x14_1)) - x6_1)) - (wrap64 (rd l1 x14_1)))) + 10)) % 256)))) ?hg ?ho ?hn ?hr ?_; (case ho => rfl); (case hg => rfl); (case hn => rfl); (case hr => first | (go_simp; done) | (go_simp; rfl)); intro w15 hw; have hg : wr.grownBy w15 (some go13) := (by rw [hw]; exact HP14.2); have hp_ : Kd.R (Kd.int .u8) 5 w15 w.heap.size (fun _ => True) (.slice (some ⟨go13, 0, none⟩) x11_1.length co7) y350 := (by rw [hw, Ny350.out]; exact HP14.1); clear HP14; have n0_ := Aside0.mk (hp_); have n1_ := Aside0.mk ((by rw [hw]; exact below_set (HB.out) GB13.out : Below w.heap.size w w15)); clear HO_11; clear HB; have HO_11 := n0_; have HB := n1_; clear n0_ n1_; clear hg hw hp_))
         (try simp only [← hl11_1])
         go_roundg k1
         case measure => have := HK1.out; omega
         case rel => exact ⟨(1), (y350), (wrap64 (x14_1 + 1)), rz, rz, H', ⟨by have := HK1.out; omega⟩, ⟨by (try simp only [hl11_1]); (with_reducible repeat (first | apply Kd.R_alloc | apply Kd.R_drewN | apply Kd.R_drew)); exact HO_11.out⟩, ⟨bz⟩⟩
        ·rw [if_neg c12] at H
         have c12b0 := decide_eq_false c12
         clear c12
         obtain ⟨y351, hy351⟩ : ∃ y_ : List Int, y_ = (x11_1.set (x14_1 : Int).toNat ((wrap64 ((wrap64 ((wrap64 (rd x11_1 x14_1)) - x6_1)) - (wrap64 (rd l1 x14_1)))) % 256)) := ⟨_, rfl⟩
         replace H : (platenref05_minus.l0 k1 l1 0 y351 (y345.length : Int) (wrap64 (x14_1 + 1))) = some r := by first | (rw [hy351]; with_reducible exact H) | (have H2_ := (Option.bind_some _ _).symm.trans H; rw [hy351]; with_reducible exact H2_) | (have H2_ := (Option.bind_some _ _).symm.trans H; with_reducible exact H2_) | with_reducible exact H | (rw [hy351]; exact H) | exact H
         have Ny351 := Aside0.mk hy351
         clear hy351
         have H' := Aside0.mk H
         clear H
         have p348 : 0 ≤ (x14_1 : Int) := of_decide_eq_true (by first | (with_reducible assumption) | assumption)
         have q348 : x14_1 < (x11_1.length : Int) := of_decide_eq_true (by first | (with_reducible assumption) | assumption)
         obtain ⟨ad348, e348, hx348_0⟩ := Kd.at_int (Kd.R_reads' HO_11.out).2.2 x14_1 p348 q348
         cases e348
         replace p348 := eq_true p348
         replace q348 := eq_true q348
         have p349 : 0 ≤ (x14_1 : Int) := of_decide_eq_true (by first | (with_reducible assumption) | assumption)
         have q349 : x14_1 < (l1.length : Int) := of_decide_eq_true (by first | (with_reducible assumption) | assumption)
         obtain ⟨ad349, e349, hx349_0⟩ := Kd.at_int HR1.out x14_1 p349 q349
         cases e349
         replace hx349_0 := (HB.out.cell (World.block_lt_of_cell? w _ hx349_0)).trans hx349_0
         replace p349 := eq_true p349
         replace q349 := eq_true q349
         have p16 : 0 ≤ (x14_1 : Int) := of_decide_eq_true (by first | (with_reducible assumption) | assumption)
         have q16 : (x14_1 : Int) < ((x11_1.length : Int) : Int) := of_decide_eq_true (by first | (with_reducible assumption) | assumption)
         obtain ⟨go16, co16, eo16, gb16, gl16, cl16, HG16⟩ := Kd.R_form HO_11.out (by omega)
         (first | cases eo16 | (injection eo16 with ea_ en_ ec_; (first | subst ea_ | (injection ea_ with ea_; subst ea_)); subst ec_; clear en_))
         have GB16 := Aside0.mk gb16
         have GG16 := Aside0.mk HG16
         clear gb16 gl16 HG16
         (first | simp only [add_plain] at hx348_0 | skip)
         obtain ⟨hx16_0, hf16_0⟩ := Kd.R_celln 0 HO_11.out (x14_1 : Int) p16 q16
         replace p16 := eq_true p16
         replace q16 := eq_true q16
         have HP17 := Kd.R_putg HO_11.out (x14_1 : Int) ((wrap64 ((wrap64 ((wrap64 (rd x11_1 x14_1)) - x6_1)) - (wrap64 (rd l1 x14_1)))) % 256)
         go_wp2_with (first | ((with_reducible refine gate_store (t := 5) (p := 43) rfl ?_); refine store_event (t := 5) (p := 43) (v := ?vo_w18) (w1 := (wr.setCell ⟨go16, (x14_1 : Int).toNat, none⟩ (.int .u8 ((wrap64 ((wrap64 ((wrap64 (rd x11_1 x14_1)) - x6_1)) - (wrap64 (rd l1 x14_1)))) % 256)))) ?hg ?ho ?hn ?hr ?_; (case ho => rfl); (case hg => rfl); (case hn => rfl); (case hr => first | (go_simp; done) | (go_simp; rfl)); intro w18 hw; have hg : wr.grownBy w18 (some go16) := (by rw [hw]; exact HP17.2); have hp_ : Kd.R (Kd.int .u8) 5 w18 w.heap.size (fun _ => True) (.slice (some ⟨go16, 0, none⟩) x11_1.length co7) y351 := (by rw [hw, Ny351.out]; exact HP17.1); clear HP17; have n0_ := Aside0.mk (hp_); have n1_ := Aside0.mk ((by rw [hw]; exact below_set (HB.out) GB16.out : Below w.heap.size w w18)); clear HO_11; clear HB; have HO_11 := n0_; have HB := n1_; clear n0_ n1_; clear hg hw hp_))
         (try simp only [← hl11_1])
         go_roundg k1
         case measure => have := HK1.out; omega
         case rel => exact ⟨(0), (y351), (wrap64 (x14_1 + 1)), rz, rz, H', ⟨by have := HK1.out; omega⟩, ⟨by (try simp only [hl11_1]); (with_reducible repeat (first | apply Kd.R_alloc | apply Kd.R_drewN | apply Kd.R_drew)); exact HO_11.out⟩, ⟨bz⟩⟩
       ·rw [if_neg c11] at H
        have c11b0 := decide_eq_false c11
        (try (have c11b9 := c11b0; (first | rw [hl11_1] at c11b9); skip))
        clear c11
        by_cases c19 : (wrap64 ((wrap64 (rd x11_1 x14_1)) - x6_1)) < 0
        ·rw [if_pos c19] at H
         have c19b0 := decide_eq_true c19
         clear c19
         obtain ⟨y352, hy352⟩ : ∃ y_ : List Int, y_ = (x11_1.set (x14_1 : Int).toNat ((wrap64 ((wrap64 ((wrap64 (rd x11_1 x14_1)) - x6_1)) + 10)) % 256)) := ⟨_, rfl⟩
         replace H : (platenref05_minus.l0 k1 l1 1 y352 (y345.length : Int) (wrap64 (x14_1 + 1))) = some r := by first | (rw [hy352]; with_reducible exact H) | (have H2_ := (Option.bind_some _ _).symm.trans H; rw [hy352]; with_reducible exact H2_) | (have H2_ := (Option.bind_some _ _).symm.trans H; with_reducible exact H2_) | with_reducible exact H | (rw [hy352]; exact H) | exact H
         have Ny352 := Aside0.mk hy352
         clear hy352
         have H' := Aside0.mk H
         clear H
         have p348 : 0 ≤ (x14_1 : Int) := of_decide_eq_true (by first | (with_reducible assumption) | assumption)
         have q348 : x14_1 < (x11_1.length : Int) := of_decide_eq_true (by first | (with_reducible assumption) | assumption)
         obtain ⟨ad348, e348, hx348_0⟩ := Kd.at_int (Kd.R_reads' HO_11.out).2.2 x14_1 p348 q348
         cases e348
         replace p348 := eq_true p348
         replace q348 := eq_true q348
         have p20 : 0 ≤ (x14_1 : Int) := of_decide_eq_true (by first | (with_reducible assumption) | assumption)
         have q20 : (x14_1 : Int) < ((x11_1.length : Int) : Int) := of_decide_eq_true (by first | (with_reducible assumption) | assumption)
         obtain ⟨go20, co20, eo20, gb20, gl20, cl20, HG20⟩ := Kd.R_form HO_11.out (by omega)
         (first | cases eo20 | (injection eo20 with ea_ en_ ec_; (first | subst ea_ | (injection ea_ with ea_; subst ea_)); subst ec_; clear en_))
         have GB20 := Aside0.mk gb20
         have GG20 := Aside0.mk HG20
         clear gb20 gl20 HG20
         (first | simp only [add_plain] at hx348_0 | skip)
         obtain ⟨hx20_0, hf20_0⟩ := Kd.R_celln 0 HO_11.out (x14_1 : Int) p20 q20
         replace p20 := eq_true p20
         replace q20 := eq_true q20
         have HP21 := Kd.R_putg HO_11.out (x14_1 : Int) ((wrap64 ((wrap64 ((wrap64 (rd x11_1 x14_1)) - x6_1)) + 10)) % 256)
         go_wp2_with (first | ((with_reducible refine gate_store (t := 5) (p := 43) rfl ?_); refine store_event (t := 5) (p := 43) (v := ?vo_w22) (w1 := (wr.setCell ⟨go20, (x14_1 : Int).toNat, none⟩ (.int .u8 ((wrap64 ((wrap64 ((wrap64 (rd x11_1 x14_1)) - x6_1)) + 10)) % 256)))) ?hg ?ho ?hn ?hr ?_; (case ho => rfl); (case hg => rfl); (case hn => rfl); (case hr => first | (go_simp; done) | (go_simp; rfl)); intro w22 hw; have hg : wr.grownBy w22 (some go20) := (by rw [hw]; exact HP21.2); have hp_ : Kd.R (Kd.int .u8) 5 w22 w.heap.size (fun _ => True) (.slice (some ⟨go20, 0, none⟩) x11_1.length co7) y352 := (by rw [hw, Ny352.out]; exact HP21.1); clear HP21; have n0_ := Aside0.mk (hp_); have n1_ := Aside0.mk ((by rw [hw]; exact below_set (HB.out) GB20.out : Below w.heap.size w w22)); clear HO_11; clear HB; have HO_11 := n0_; have HB := n1_; clear n0_ n1_; clear hg hw hp_))
         (try simp only [← hl11_1])
         go_roundg k1
         case measure => have := HK1.out; omega
         case rel => exact ⟨(1), (y352), (wrap64 (x14_1 + 1)), rz, rz, H', ⟨by have := HK1.out; omega⟩, ⟨by (try simp only [hl11_1]); (with_reducible repeat (first | apply Kd.R_alloc | apply Kd.R_drewN | apply Kd.R_drew)); exact HO_11.out⟩, ⟨bz⟩⟩
        ·rw [if_neg c19] at H
         have c19b0 := decide_eq_false c19
         clear c19
         obtain ⟨y353, hy353⟩ : ∃ y_ : List Int, y_ = (x11_1.set (x14_1 : Int).toNat ((wrap64 ((wrap64 (rd x11_1 x14_1)) - x6_1)) % 256)) := ⟨_, rfl⟩
         replace H : (platenref05_minus.l0 k1 l1 0 y353 (y345.length : Int) (wrap64 (x14_1 + 1))) = some r := by first | (rw [hy353]; with_reducible exact H) | (have H2_ := (Option.bind_some _ _).symm.trans H; rw [hy353]; with_reducible exact H2_) | (have H2_ := (Option.bind_some _ _).symm.trans H; with_reducible exact H2_) | with_reducible exact H | (rw [hy353]; exact H) | exact H
         have Ny353 := Aside0.mk hy353
         clear hy353
         have H' := Aside0.mk H
         clear H
         have p348 : 0 ≤ (x14_1 : Int) := of_decide_eq_true (by first | (with_reducible assumption) | assumption)
         have q348 : x14_1 < (x11_1.length : Int) := of_decide_eq_true (by first | (with_reducible assumption) | assumption)
         obtain ⟨ad348, e348, hx348_0⟩ := Kd.at_int (Kd.R_reads' HO_11.out).2.2 x14_1 p348 q348
         cases e348
         replace p348 := eq_true p348
         replace q348 := eq_true q348
         have p23 : 0 ≤ (x14_1 : Int) := of_decide_eq_true (by first | (with_reducible assumption) | assumption)
         have q23 : (x14_1 : Int) < ((x11_1.length : Int) : Int) := of_decide_eq_true (by first | (with_reducible assumption) | assumption)
         obtain ⟨go23, co23, eo23, gb23, gl23, cl23, HG23⟩ := Kd.R_form HO_11.out (by omega)
         (first | cases eo23 | (injection eo23 with ea_ en_ ec_; (first | subst ea_ | (injection ea_ with ea_; subst ea_)); subst ec_; clear en_))
         have GB23 := Aside0.mk gb23
         have GG23 := Aside0.mk HG23
         clear gb23 gl23 HG23
         (first | simp only [add_plain] at hx348_0 | skip)
         obtain ⟨hx23_0, hf23_0⟩ := Kd.R_celln 0 HO_11.out (x14_1 : Int) p23 q23
         replace p23 := eq_true p23
         replace q23 := eq_true q23
         have HP24 := Kd.R_putg HO_11.out (x14_1 : Int) ((wrap64 ((wrap64 (rd x11_1 x14_1)) - x6_1)) % 256)
         go_wp2_with (first | ((with_reducible refine gate_store (t := 5) (p := 43) rfl ?_); refine store_event (t := 5) (p := 43) (v := ?vo_w25) (w1 := (wr.setCell ⟨go23, (x14_1 : Int).toNat, none⟩ (.int .u8 ((wrap64 ((wrap64 (rd x11_1 x14_1)) - x6_1)) % 256)))) ?hg ?ho ?hn ?hr ?_; (case ho => rfl); (case hg => rfl); (case hn => rfl); (case hr => first | (go_simp; done) | (go_simp; rfl)); intro w25 hw; have hg : wr.grownBy w25 (some go23) := (by rw [hw]; exact HP24.2); have hp_ : Kd.R (Kd.int .u8) 5 w25 w.heap.size (fun _ => True) (.slice (some ⟨go23, 0, none⟩) x11_1.length co7) y353 := (by rw [hw, Ny353.out]; exact HP24.1); clear HP24; have n0_ := Aside0.mk (hp_); have n1_ := Aside0.mk ((by rw [hw]; exact below_set (HB.out) GB23.out : Below w.heap.size w w25)); clear HO_11; clear HB; have HO_11 := n0_; have HB := n1_; clear n0_ n1_; clear hg hw hp_))
         (try simp only [← hl11_1])
         go_roundg k1
         case measure => have := HK1.out; omega
         case rel => exact ⟨(0), (y353), (wrap64 (x14_1 + 1)), rz, rz, H', ⟨by have := HK1.out; omega⟩, ⟨by (try simp only [hl11_1]); (with_reducible repeat (first | apply Kd.R_alloc | apply Kd.R_drewN | apply Kd.R_drew)); exact HO_11.out⟩, ⟨bz⟩⟩
      ·rw [if_neg c10] at H
       exact absurd H (by simp)
     ·rw [if_neg c9] at H
      exact absurd H (by simp)
    ·rw [if_neg c8] at H
     have c8b0 := decide_eq_false c8
     (try (have c8b9 := c8b0; (first | rw [hl11_1] at c8b9); skip))
     clear c8
     obtain rfl := Option.some.inj H
     go_wp2
     go_ret
     exact ⟨_, by first | rfl | (simp [errW_none, errW_some] <;> rfl) | (simp [*, errW_none, errW_some] <;> rfl), by (with_reducible repeat (first | apply Kd.R_alloc | apply Kd.R_drewN | apply Kd.R_drew)); exact HO_11.out, bz⟩
 ·rw [if_neg c3] at H
  exact absurd H (by simp)
end Go.Proofs.YtmeapdchnnpceaaDoor.Fn
end
section
namespace Go.Proofs.YtmeapdchnnpceaaDoor.Fn
open Go.RowKit Go.Proofs.YtmeapdchnnpceaaDoorW.PrintWords Go.Proofs.YtmeapdchnnpceaaDoorW.PrintLast Go.Proofs.YtmeapdchnnpceaaDoorW.PrintMore
attribute [local go_sem] min2_int min_two
set_option linter.unusedVariables false
set_option linter.unusedSimpArgs false
mutual
def platenref05_divide.l0 : Nat → List Int → Int → List (List Int) → Int → Option (Int × List Int)
 | 0, _, _, _, _ => none
 | k + 1, x0, x2, x8, x9 => if x9 < x2 then (if 0 ≤ (wrap64 (x9 - 1)) then (if (wrap64 (x9 - 1)) < (x8.length : Int) then ((platenref04_Times.f k (rd_L2 x8 (wrap64 (x9 - 1))) 2).bind fun t358 => (if x8.length < 5864062014805 then (platenref05_divide.l0 k x0 x2 (x8 ++ [t358]) (wrap64 (x9 + 1))) else (none))) else (none)) else (none)) else (platenref05_divide.l1 k x0 x8 0 (wrap64 (x2 - 1)))
def platenref05_divide.l1 : Nat → List Int → List (List Int) → Int → Int → Option (Int × List Int)
 | 0, _, _, _, _ => none
 | k + 1, x0, x8, x10, x11 => if x11 ≥ 0 then (if 0 ≤ x11 then (if x11 < (x8.length : Int) then ((platenref05_less.f k x0 (rd_L2 x8 x11)).bind fun t365 => (if t365 = true then (platenref05_divide.l1 k x0 x8 (IntKind.u64.wrap (2 * x10)) (wrap64 (x11 - 1))) else ((platenref05_minus.f k x0 (rd_L2 x8 x11)).bind fun t367 => (platenref05_divide.l1 k t367 x8 (IntKind.u64.wrap ((IntKind.u64.wrap (2 * x10)) + 1)) (wrap64 (x11 - 1)))))) else (none)) else (none)) else (some (x10, x0))
end
def platenref05_divide.f (k : Nat) (l0 : List Int) (l1 : List Int) (a2 : Int) : Option (Int × List Int) := platenref05_divide.l0 k l0 a2 (([l1] : List (List Int))) 1
set_option maxHeartbeats 8000000 in
set_option maxRecDepth 100000 in
theorem platenref05_divide.calls (k : Nat) (P0_ : Nat → Prop) (A0 : Option Addr) (c0 : Nat) (l0 : List Int) (P1_ : Nat → Prop) (A1 : Option Addr) (c1 : Nat) (l1 : List Int) (a2 : Int) (r1 : Int) (r2 : List Int) (w : World) (hs0 : Kd.V (Kd.int .u8) 5 w w.heap.size (fun k_ => P0_ k_) (.slice A0 l0.length c0) l0) (hs1 : Kd.V (Kd.int .u8) 5 w w.heap.size (fun k_ => P1_ k_) (.slice A1 l1.length c1) l1) (h : platenref05_divide.f k l0 l1 a2 = some (r1, r2)) :
  Calls Tryd.prog 41 #[.slice A0 l0.length c0, .slice A1 l1.length c1, .int .i64 a2] w fun e w' => ∃ v1_ : Value, e = .returned (.tuple #[.int .u64 r1, v1_]) ∧ Kd.V (Kd.int .u8) 5 w' w.heap.size (fun k_ => ((P0_ k_ ∨ P1_ k_) ∨ w.heap.size ≤ k_)) v1_ r2 ∧ Below w.heap.size w w' := by
 have HO0 := Aside0.mk (show Kd.V (Kd.int .u8) 5 w w.heap.size (fun k_ => ((P0_ k_ ∨ P1_ k_) ∨ w.heap.size ≤ k_)) (.slice A0 l0.length c0) l0 from Kd.V_mono hs0 (fun k_ hk => .inl (.inl hk)))
 have HO1 := Aside0.mk (show Kd.V (Kd.int .u8) 5 w w.heap.size (fun k_ => ((P0_ k_ ∨ P1_ k_) ∨ w.heap.size ≤ k_)) (.slice A1 l1.length c1) l1 from Kd.V_mono hs1 (fun k_ hk => .inl (.inr hk)))
 have HB := Aside0.mk (Below.refl w.heap.size w)
 have H : (platenref05_divide.l0 k l0 a2 (([l1] : List (List Int))) 1) = some (r1, r2) := h
 clear h
 obtain ⟨y354, hy354⟩ : ∃ y_ : List (List Int), y_ = (([l1] : List (List Int))) := ⟨_, rfl⟩
 replace H : (platenref05_divide.l0 k l0 a2 y354 1) = some (r1, r2) := by first | (rw [hy354]; with_reducible exact H) | (have H2_ := (Option.bind_some _ _).symm.trans H; rw [hy354]; with_reducible exact H2_) | (have H2_ := (Option.bind_some _ _).symm.trans H; with_reducible exact H2_) | with_reducible exact H | (rw [hy354]; exact H) | exact H
 have Ny354 := Aside0.mk hy354
 clear hy354
 have H' := Aside0.mk H
 clear H
 go_enter Tryd.func41, Tryd.ntmps41
 go_wp2_with (first | ((with_reducible refine gate_dst (N := 13) rfl ?_); refine Kd.N_lit (Kd.slice 5 (Kd.int .u8)) _ 63 ?hg (N' := 13) ?hd (xs := ([l1] : List (List Int))) (inner := [.slice A1 l1.length c1]) (ok := (fun k_ => ((P0_ k_ ∨ P1_ k_) ∨ w.heap.size ≤ k_))) (okp := (fun k_ => ((P0_ k_ ∨ P1_ k_) ∨ w.heap.size ≤ k_))) ?hr ?hp (fun _ hk => hk) ((show ∀ k_, w.heap.size ≤ k_ → (fun k_ => ((P0_ k_ ∨ P1_ k_) ∨ w.heap.size ≤ k_)) k_ from fun k_ hk => (.inr (Nat.le_trans (below_size bz) hk))) _ (Nat.le_refl _)) (Below.refl _ _) (Nat.le_refl _) (by simp) ?_; (case hd => rfl); (case hg => rfl); (case hr => first | (go_simp; done) | (go_simp; rfl)); (case hp => exact (Reps.one (show Kd.FK (Kd.slice 5 (Kd.int .u8)) _ _ l1 [.slice A1 l1.length c1] from (Kd.FK_slice_mk (Kd.V_reads' (Kd.V_mono (ok' := (fun k_ => ((P0_ k_ ∨ P1_ k_) ∨ w.heap.size ≤ k_))) (HO1.out) (fun k_ hk => hk))).2.1 (Kd.V_F (Kd.V_mono (ok' := (fun k_ => ((P0_ k_ ∨ P1_ k_) ∨ w.heap.size ≤ k_))) (HO1.out) (fun k_ hk => hk))))) (Reps.none _ _))); intro v355 w4 ho5 hb hg_ hnew_; clear hg_ hnew_; (first | rw [← Ny354.out] at ho5 | (simp only [Int.reduceToNat] at ho5; rw [← Ny354.out] at ho5)); have n0_ := Aside0.mk (Kd.V_elder' (by (with_reducible repeat (first | apply Kd.V_alloc | apply Kd.V_drewN | apply Kd.V_drew)); exact HO0.out) (Kd.N_base ho5) hb); have n1_ := Aside0.mk (Kd.V_elder' (by (with_reducible repeat (first | apply Kd.V_alloc | apply Kd.V_drewN | apply Kd.V_drew)); exact HO1.out) (Kd.N_base ho5) hb); have n2_ := Aside0.mk (Kd.N_lower ho5 (below_size bz)); have n3_ := Aside0.mk (below_step bz hb); clear HO0; clear HO1; clear HB; have HO0 := n0_; have HO1 := n1_; have HO356 := n2_; have HB := n3_; clear n0_ n1_ n2_ n3_; clear hb ho5))
 go_loopg [8, 9] k (fun kq v8 v9 w' => ∃ (x8_1 : List (List Int)) (x9_1 : Int), v9 = .int .i64 x9_1 ∧ Aside0 (platenref05_divide.l0 kq l0 a2 x8_1 x9_1 = some (r1, r2)) ∧ Aside0 (kq ≤ k) ∧ Aside0 (Kd.V (Kd.int .u8) 5 w' w.heap.size (fun k_ => ((P0_ k_ ∨ P1_ k_) ∨ w.heap.size ≤ k_) ∧ some k_ ≠ (v8 : Value).ownBlock) (.slice A0 l0.length c0) l0) ∧ Aside0 (Kd.N (Kd.slice 5 (Kd.int .u8)) 63 w' w.heap.size (fun k_ => ((P0_ k_ ∨ P1_ k_) ∨ w.heap.size ≤ k_)) v8 x8_1) ∧ Aside0 (Below w.heap.size w w'))
 case atStart => exact ⟨(y354), (1), rz, H', ⟨Nat.le_refl _⟩, ⟨by (with_reducible repeat (first | apply Kd.V_alloc | apply Kd.V_drewN | apply Kd.V_drew)); exact HO0.out⟩, ⟨by (with_reducible repeat (first | apply Kd.N_alloc | apply Kd.N_drewN | apply Kd.N_drew)); exact HO356.out⟩, ⟨bz⟩⟩
 case round =>
  clear H'
  try clear c1
  obtain ⟨x8_1, x9_1, rfl, HA, HK1, HO_0, HO_8, HB⟩ := hrel
  cases gk with
  | zero => exact absurd HA.out (by simp [platenref05_divide.l0])
  | succ k1 =>
   have H := HA.out
   clear HA
   simp only [platenref05_divide.l0] at H
   by_cases c6 : x9_1 < a2
   ·rw [if_pos c6] at H
    have c6b0 := decide_eq_true c6
    clear c6
    obtain ⟨ji7, hji7⟩ : ∃ j_ : Int, (wrap64 (x9_1 - 1)) = j_ := ⟨_, rfl⟩
    (first | rw [hji7] at H | simp only [hji7] at H)
    have hji7w : (IntKind.i64.wrap (x9_1 - 1)) = ji7 := (i64_w _).trans hji7
    by_cases c8 : 0 ≤ (ji7)
    ·rw [if_pos c8] at H
     have c8b0 := decide_eq_true c8
     clear c8
     by_cases c9 : (ji7) < (x8_1.length : Int)
     ·rw [if_pos c9] at H
      have c9b0 := decide_eq_true c9
      clear c9
      replace H := bs H
      obtain ⟨t358, A10, H⟩ := H
      by_cases c11 : x8_1.length < 5864062014805
      ·rw [if_pos c11] at H
       have LMc11 := Aside0.mk c11
       clear c11
       obtain ⟨y361, hy361⟩ : ∃ y_ : List (List Int), y_ = (x8_1 ++ [t358]) := ⟨_, rfl⟩
       replace H : (platenref05_divide.l0 k1 l0 a2 y361 (wrap64 (x9_1 + 1))) = some (r1, r2) := by first | (rw [hy361]; with_reducible exact H) | (have H2_ := (Option.bind_some _ _).symm.trans H; rw [hy361]; with_reducible exact H2_) | (have H2_ := (Option.bind_some _ _).symm.trans H; with_reducible exact H2_) | with_reducible exact H | (rw [hy361]; exact H) | exact H
       have Ny361 := Aside0.mk hy361
       clear hy361
       have H' := Aside0.mk H
       clear H
       obtain ⟨Ao12, co12, eo12⟩ := Kd.N_slice HO_8.out
       subst eo12
       have p357 : 0 ≤ ((ji7) : Int) := of_decide_eq_true (by first | (with_reducible assumption) | assumption)
       have q357 : (ji7) < (x8_1.length : Int) := of_decide_eq_true (by first | (with_reducible assumption) | assumption)
       obtain ⟨ad357, A357_0, c357_0, e357, hx357_0, hl357_0, hi357_0⟩ := at_L2 (Kd.N_reads' HO_8.out).2.2 (ji7) p357 q357
       cases e357
       obtain ⟨ce357, hce357, hMe357, hcc357⟩ := Kd.N_get HO_8.out [] (ji7) p357 (by first | exact q357 | exact of_decide_eq_true (by first | (with_reducible assumption) | assumption) | (have e_ := (Kd.N_reads' HO_8.out).1; omega))
       obtain ⟨ua357_0, uc357_0, rfl, ul357_0, ge357_0⟩ := Kd.FK_slice_open hMe357
       have hv357_0 := hcc357 0 _ rfl
       rw [Nat.add_zero, show ((Kd.slice 5 (Kd.int .u8))).sz = 1 from rfl, Nat.mul_one] at hv357_0
       replace hv357_0 := Option.some.inj (hv357_0.symm.trans hx357_0)
       injection hv357_0 with hva_ hvn_ hvc_
       rw [hva_] at ge357_0
       rw [hvc_] at ul357_0
       have HL357_0 := Aside0.mk (show Kd.V (Kd.int .u8) 5 _ w.heap.size _ _ (rd_L2 x8_1 (ji7)) from Kd.V_mk ul357_0 ge357_0)
       clear hva_ hvn_ hvc_ ge357_0 ul357_0
       clear hcc357 hce357
       have HR357_0 := Aside0.mk hi357_0
       have HC357_0 := Aside0.mk hl357_0
       clear hi357_0 hl357_0
       replace p357 := eq_true p357
       replace q357 := eq_true q357
       go_wp2_with (first | ((with_reducible refine gate_callee (f := 39) rfl ?_); refine goesL_ (some 25) rfl rfl Tryd.func39 (by kernel_rfl) rfl #[.slice A357_0 (rd_L2 x8_1 (ji7)).length c357_0, .int .i64 2] rfl (by (try simp only [List.map_toArray, List.map_cons, List.map_nil]); first | done | (simp only [hji7]; rfl) | rfl | (simp only [List.length_drop, List.length_take]; rfl)) ?_; (with_reducible refine (platenref04_Times.calls k1 _ _ (rd_L2 x8_1 (ji7)) 2 t358 _ ?side1 ?side2 A10.out).mono ?_); (case side1 => repeat (first | exact (by repeat (first | (with_reducible exact HR357_0.out) | (with_reducible refine Kd.C_alloc ?_ _) | (with_reducible refine Kd.C_drewN ?_ _) | (with_reducible refine Kd.C_drew ?_) | exact HR357_0.out)) | (with_reducible refine Kd.C_alloc ?_ _) | (with_reducible refine Kd.C_drewN ?_ _) | (with_reducible refine Kd.C_drew ?_))); (case side2 => exact HC357_0.out); rintro e w13 ⟨v359, rfl, ho0, hb⟩; refine ⟨_, rfl, ?_⟩; have n0_ := Aside0.mk (Kd.V_elder' (by (with_reducible repeat (first | apply Kd.V_alloc | apply Kd.V_drewN | apply Kd.V_drew)); exact HO_0.out) (Kd.R_base ho0) hb); have n1_ := Aside0.mk (Kd.N_elder' (by (with_reducible repeat (first | apply Kd.N_alloc | apply Kd.N_drewN | apply Kd.N_drew)); exact HO_8.out) (Kd.R_base ho0) hb); have n2_ := Aside0.mk (Kd.V_elder' (by (with_reducible repeat (first | apply Kd.V_alloc | apply Kd.V_drewN | apply Kd.V_drew)); exact HL357_0.out) (Kd.R_base ho0) hb); have n3_ := Aside0.mk (Kd.R_lower (Kd.R_newM (M := fun k_ => (w.heap.size ≤ k_)) ho0 (below_size bz) (fun k_ h_ => h_)) (below_size bz)); have n4_ := Aside0.mk (Kd.C_below (by repeat (first | (with_reducible exact HR357_0.out) | (with_reducible refine Kd.C_alloc ?_ _) | (with_reducible refine Kd.C_drewN ?_ _) | (with_reducible refine Kd.C_drew ?_) | exact HR357_0.out)) hb); have n5_ := Aside0.mk (below_step bz hb); clear HO_0; clear HO_8; clear HL357_0; clear HR357_0; clear HB; have HO_0 := n0_; have HO_8 := n1_; have HL357_0 := n2_; have HO360 := n3_; have HR357_0 := n4_; have HB := n5_; clear n0_ n1_ n2_ n3_ n4_ n5_; (try clear hb); (try clear hb2); (try clear hk); (try clear hi); (try clear ho0); obtain ⟨Ao15, co15, eo15⟩ := Kd.R_slice HO360.out; subst eo15) | ((with_reducible refine gate_builtin (b := .append) (xs := #[.tmp 19, .tmp 26]) rfl ?_); at_builtin; refine Kd.N_append (Kd.slice 5 (Kd.int .u8)) (w0 := w) w.heap.size rfl (.tmp 19) (.tmp 26) 83 63 (.slice none 0 0) 24 rfl Tryd.underlying83 info63 rfl (by decide) (by omega) (.slice (some ad357) x8_1.length co12) x8_1 t358 [.slice Ao15 t358.length co15] (fun k_ => ((P0_ k_ ∨ P1_ k_) ∨ w.heap.size ≤ k_)) (fun k_ => ((fun k_ => ((P0_ k_ ∨ P1_ k_) ∨ w.heap.size ≤ k_))) k_ ∧ some k_ ≠ (.slice (some ad357) x8_1.length co12 : Value).ownBlock) rfl rfl ?aP (fun _ hk => hk) ?aF ?aO ?aB ?aS ?aL ?_; (case aP => exact (Kd.FK_slice_mk (Kd.R_reads' (Kd.R_mono (ok' := (fun k_ => ((fun k_ => ((P0_ k_ ∨ P1_ k_) ∨ w.heap.size ≤ k_))) k_ ∧ some k_ ≠ (.slice (some ad357) x8_1.length co12 : Value).ownBlock)) (Kd.R_apart' (HO360.out) (Kd.N_typed HO_8.out) (by decide)) (fun k_ hk => ⟨(.inr (hk.1.1)), hk.2⟩))).2.1 (Kd.R_F (Kd.R_mono (ok' := (fun k_ => ((fun k_ => ((P0_ k_ ∨ P1_ k_) ∨ w.heap.size ≤ k_))) k_ ∧ some k_ ≠ (.slice (some ad357) x8_1.length co12 : Value).ownBlock)) (Kd.R_apart' (HO360.out) (Kd.N_typed HO_8.out) (by decide)) (fun k_ hk => ⟨(.inr (hk.1.1)), hk.2⟩))))); (case aB => exact bz); (case aF => exact (fun k_ hk => (.inr (Nat.le_trans (below_size bz) hk)))); (case aO => exact (by (with_reducible repeat (first | apply Kd.N_alloc | apply Kd.N_drewN | apply Kd.N_drew)); exact Kd.N_mono HO_8.out (fun _ hk => hk.1))); (case aS => exact (below_size bz)); (case aL => have := LMc11.out; omega); intro v362 w14 ho hb hg hat; rw [← Ny361.out] at ho; have n0_ := Aside0.mk (Kd.V_afterv (ok := (fun k_ => ((P0_ k_ ∨ P1_ k_) ∨ w.heap.size ≤ k_) ∧ some k_ ≠ (.slice Ao15 t358.length co15 : Value).ownBlock)) (by (with_reducible repeat (first | apply Kd.V_alloc | apply Kd.V_drewN | apply Kd.V_drew)); exact Kd.V_mono HO_0.out (fun _ hk => ⟨⟨hk.1.1, hk.2⟩, hk.1.2⟩)) hg hat); have n1_ := Aside0.mk (Kd.V_afterv (ok := (fun k_ => ((P0_ k_ ∨ P1_ k_) ∨ w.heap.size ≤ k_) ∧ some k_ ≠ (.slice Ao15 t358.length co15 : Value).ownBlock)) (by (with_reducible repeat (first | apply Kd.V_alloc | apply Kd.V_drewN | apply Kd.V_drew)); exact Kd.V_mono HL357_0.out (fun _ hk => ⟨⟨hk.1.1, hk.2⟩, hk.1.2⟩)) hg hat); have n2_ := Aside0.mk (hb); have n3_ := Aside0.mk (ho); clear HO_0; clear HL357_0; clear HB; clear HO_8; clear HO360; have HO_0 := n0_; have HL357_0 := n1_; have HB := n2_; have HO363 := n3_; clear n0_ n1_ n2_ n3_; clear ho hb hg hat))
       go_roundg k1
       case measure => have := HK1.out; omega
       case rel => exact ⟨(y361), (wrap64 (x9_1 + 1)), rz, H', ⟨by have := HK1.out; omega⟩, ⟨by (with_reducible repeat (first | apply Kd.V_alloc | apply Kd.V_drewN | apply Kd.V_drew)); exact Kd.V_mono HO_0.out (fun _ hk => ⟨hk.1.1, hk.2⟩)⟩, ⟨by (with_reducible repeat (first | apply Kd.N_alloc | apply Kd.N_drewN | apply Kd.N_drew)); exact HO363.out⟩, ⟨bz⟩⟩
      ·rw [if_neg c11] at H
       exact absurd H (by simp)
     ·rw [if_neg c9] at H
      exact absurd H (by simp)
    ·rw [if_neg c8] at H
     exact absurd H (by simp)
   ·rw [if_neg c6] at H
    have c6b0 := decide_eq_false c6
    clear c6
    have H' := Aside0.mk H
    clear H
    go_wp2
    go_loopg [0, 10, 11] k1 (fun kq v0 v10 v11 w' => ∃ (x0_2 : List Int) (x10_2 : Int) (x11_2 : Int), v10 = .int .u64 x10_2 ∧ v11 = .int .i64 x11_2 ∧ Aside0 (platenref05_divide.l1 kq x0_2 x8_1 x10_2 x11_2 = some (r1, r2)) ∧ Aside0 (kq ≤ k1) ∧ Aside0 (Kd.V (Kd.int .u8) 5 w' w.heap.size (fun k_ => ((P0_ k_ ∨ P1_ k_) ∨ w.heap.size ≤ k_) ∧ some k_ ≠ (u8 : Value).ownBlock) v0 x0_2) ∧ Aside0 (Kd.N (Kd.slice 5 (Kd.int .u8)) 63 w' w.heap.size (fun k_ => ((P0_ k_ ∨ P1_ k_) ∨ w.heap.size ≤ k_)) u8 x8_1) ∧ Aside0 (Below w.heap.size w w'))
    case atStart => exact ⟨(l0), (0), (wrap64 (a2 - 1)), rz, rz, H', ⟨Nat.le_refl _⟩, ⟨by (with_reducible repeat (first | apply Kd.V_alloc | apply Kd.V_drewN | apply Kd.V_drew)); exact HO_0.out⟩, ⟨by (with_reducible repeat (first | apply Kd.N_alloc | apply Kd.N_drewN | apply Kd.N_drew)); exact HO_8.out⟩, ⟨bz⟩⟩
    case round =>
     clear H'
     try clear c1
     try clear c6
     try clear c6b0
     try clear c8
     try clear c8b0
     try clear c9
     try clear c9b0
     try clear c11
     try clear hx357_0
     try clear p357
     try clear q357
     obtain ⟨x0_2, x10_2, x11_2, rfl, rfl, HA, HK2, HO_0, HO_8, HB⟩ := hrel
     cases gk with
     | zero => exact absurd HA.out (by simp [platenref05_divide.l1])
     | succ k2 =>
      have H := HA.out
      clear HA
      simp only [platenref05_divide.l1] at H
      by_cases c16 : x11_2 ≥ 0
      ·rw [if_pos c16] at H
       have c16b0 : decide (0 ≤ x11_2) = true := decide_eq_true c16
       clear c16
       by_cases c17 : 0 ≤ x11_2
       ·rw [if_pos c17] at H
        have c17b0 := decide_eq_true c17
        clear c17
        by_cases c18 : x11_2 < (x8_1.length : Int)
        ·rw [if_pos c18] at H
         have c18b0 := decide_eq_true c18
         clear c18
         replace H := bs H
         obtain ⟨t365, A19, H⟩ := H
         by_cases c20 : t365 = true
         ·subst c20
          replace H := hT H
          have H' := Aside0.mk H
          clear H
          obtain ⟨Ao21, co21, eo21⟩ := Kd.N_slice HO_8.out
          subst eo21
          have p364 : 0 ≤ (x11_2 : Int) := of_decide_eq_true (by first | (with_reducible assumption) | assumption)
          have q364 : x11_2 < (x8_1.length : Int) := of_decide_eq_true (by first | (with_reducible assumption) | assumption)
          obtain ⟨ad364, A364_0, c364_0, e364, hx364_0, hl364_0, hi364_0⟩ := at_L2 (Kd.N_reads' HO_8.out).2.2 x11_2 p364 q364
          cases e364
          obtain ⟨ce364, hce364, hMe364, hcc364⟩ := Kd.N_get HO_8.out [] x11_2 p364 (by first | exact q364 | exact of_decide_eq_true (by first | (with_reducible assumption) | assumption) | (have e_ := (Kd.N_reads' HO_8.out).1; omega))
          obtain ⟨ua364_0, uc364_0, rfl, ul364_0, ge364_0⟩ := Kd.FK_slice_open hMe364
          have hv364_0 := hcc364 0 _ rfl
          rw [Nat.add_zero, show ((Kd.slice 5 (Kd.int .u8))).sz = 1 from rfl, Nat.mul_one] at hv364_0
          replace hv364_0 := Option.some.inj (hv364_0.symm.trans hx364_0)
          injection hv364_0 with hva_ hvn_ hvc_
          rw [hva_] at ge364_0
          rw [hvc_] at ul364_0
          have HL364_0 := Aside0.mk (show Kd.V (Kd.int .u8) 5 _ w.heap.size _ _ (rd_L2 x8_1 x11_2) from Kd.V_mk ul364_0 ge364_0)
          clear hva_ hvn_ hvc_ ge364_0 ul364_0
          clear hcc364 hce364
          have HR364_0 := Aside0.mk hi364_0
          have HC364_0 := Aside0.mk hl364_0
          clear hi364_0 hl364_0
          replace p364 := eq_true p364
          replace q364 := eq_true q364
          obtain ⟨Ao22, co22, eo22⟩ := Kd.V_slice HO_0.out
          subst eo22
          go_wp2_with (first | ((with_reducible refine gate_callee (f := 40) rfl ?_); refine goesL_ (some 41) rfl rfl Tryd.func40 (by kernel_rfl) rfl #[.slice Ao22 x0_2.length co22, .slice A364_0 (rd_L2 x8_1 x11_2).length c364_0] rfl lz ?_; (with_reducible refine (platenref05_less.calls k2 _ _ x0_2 _ _ (rd_L2 x8_1 x11_2) true _ ?side1 ?side2 ?side3 ?side4 A19.out).mono ?_); (case side1 => repeat (first | exact (Kd.V_reads' HO_0.out).2.2 | (with_reducible refine Kd.C_alloc ?_ _) | (with_reducible refine Kd.C_drewN ?_ _) | (with_reducible refine Kd.C_drew ?_))); (case side2 => exact (Kd.V_reads' HO_0.out).2.1); (case side3 => repeat (first | exact (by repeat (first | (with_reducible exact HR364_0.out) | (with_reducible refine Kd.C_alloc ?_ _) | (with_reducible refine Kd.C_drewN ?_ _) | (with_reducible refine Kd.C_drew ?_) | exact HR364_0.out)) | (with_reducible refine Kd.C_alloc ?_ _) | (with_reducible refine Kd.C_drewN ?_ _) | (with_reducible refine Kd.C_drew ?_))); (case side4 => exact HC364_0.out); rintro e w' ⟨rfl, ⟨nd, rfl⟩⟩; refine ⟨_, rfl, ?_⟩))
          go_roundg k2
          case measure => have := HK1.out; have := HK2.out; omega
          case rel => exact ⟨(x0_2), (IntKind.u64.wrap (2 * x10_2)), (wrap64 (x11_2 - 1)), rz, rz, H', ⟨by have := HK1.out; have := HK2.out; omega⟩, ⟨by (with_reducible repeat (first | apply Kd.V_alloc | apply Kd.V_drewN | apply Kd.V_drew)); exact HO_0.out⟩, ⟨by (with_reducible repeat (first | apply Kd.N_alloc | apply Kd.N_drewN | apply Kd.N_drew)); exact HO_8.out⟩, ⟨bz⟩⟩
         ·replace c20 := Bool.eq_false_iff.mpr c20
          subst c20
          replace H := hF H
          replace H := bs H
          obtain ⟨t367, A23, H⟩ := H
          have H' := Aside0.mk H
          clear H
          obtain ⟨Ao24, co24, eo24⟩ := Kd.N_slice HO_8.out
          subst eo24
          have p364 : 0 ≤ (x11_2 : Int) := of_decide_eq_true (by first | (with_reducible assumption) | assumption)
          have q364 : x11_2 < (x8_1.length : Int) := of_decide_eq_true (by first | (with_reducible assumption) | assumption)
          obtain ⟨ad364, A364_0, c364_0, e364, hx364_0, hl364_0, hi364_0⟩ := at_L2 (Kd.N_reads' HO_8.out).2.2 x11_2 p364 q364
          cases e364
          obtain ⟨ce364, hce364, hMe364, hcc364⟩ := Kd.N_get HO_8.out [] x11_2 p364 (by first | exact q364 | exact of_decide_eq_true (by first | (with_reducible assumption) | assumption) | (have e_ := (Kd.N_reads' HO_8.out).1; omega))
          obtain ⟨ua364_0, uc364_0, rfl, ul364_0, ge364_0⟩ := Kd.FK_slice_open hMe364
          have hv364_0 := hcc364 0 _ rfl
          rw [Nat.add_zero, show ((Kd.slice 5 (Kd.int .u8))).sz = 1 from rfl, Nat.mul_one] at hv364_0
          replace hv364_0 := Option.some.inj (hv364_0.symm.trans hx364_0)
          injection hv364_0 with hva_ hvn_ hvc_
          rw [hva_] at ge364_0
          rw [hvc_] at ul364_0
          have HL364_0 := Aside0.mk (show Kd.V (Kd.int .u8) 5 _ w.heap.size _ _ (rd_L2 x8_1 x11_2) from Kd.V_mk ul364_0 ge364_0)
          clear hva_ hvn_ hvc_ ge364_0 ul364_0
          clear hcc364 hce364
          have HR364_0 := Aside0.mk hi364_0
          have HC364_0 := Aside0.mk hl364_0
          clear hi364_0 hl364_0
          replace p364 := eq_true p364
          replace q364 := eq_true q364
          obtain ⟨Ao25, co25, eo25⟩ := Kd.V_slice HO_0.out
          subst eo25
          go_wp2_with (first | ((with_reducible refine gate_callee (f := 40) rfl ?_); refine goesL_ (some 41) rfl rfl Tryd.func40 (by kernel_rfl) rfl #[.slice Ao25 x0_2.length co25, .slice A364_0 (rd_L2 x8_1 x11_2).length c364_0] rfl lz ?_; (with_reducible refine (platenref05_less.calls k2 _ _ x0_2 _ _ (rd_L2 x8_1 x11_2) false _ ?side1 ?side2 ?side3 ?side4 A19.out).mono ?_); (case side1 => repeat (first | exact (Kd.V_reads' HO_0.out).2.2 | (with_reducible refine Kd.C_alloc ?_ _) | (with_reducible refine Kd.C_drewN ?_ _) | (with_reducible refine Kd.C_drew ?_))); (case side2 => exact (Kd.V_reads' HO_0.out).2.1); (case side3 => repeat (first | exact (by repeat (first | (with_reducible exact HR364_0.out) | (with_reducible refine Kd.C_alloc ?_ _) | (with_reducible refine Kd.C_drewN ?_ _) | (with_reducible refine Kd.C_drew ?_) | exact HR364_0.out)) | (with_reducible refine Kd.C_alloc ?_ _) | (with_reducible refine Kd.C_drewN ?_ _) | (with_reducible refine Kd.C_drew ?_))); (case side4 => exact HC364_0.out); rintro e w' ⟨rfl, ⟨nd, rfl⟩⟩; refine ⟨_, rfl, ?_⟩; have p366 : 0 ≤ (x11_2 : Int) := of_decide_eq_true (by first | (with_reducible assumption) | assumption); have q366 : x11_2 < (x8_1.length : Int) := of_decide_eq_true (by first | (with_reducible assumption) | assumption); obtain ⟨ad366, A366_0, c366_0, e366, hx366_0, hl366_0, hi366_0⟩ := at_L2 (Kd.N_reads' HO_8.out).2.2 x11_2 p366 q366; obtain rfl : ad364 = ad366 := (by injection e366); obtain ⟨ce366, hce366, hMe366, hcc366⟩ := Kd.N_get HO_8.out [] x11_2 p366 (by first | exact q366 | exact of_decide_eq_true (by first | (with_reducible assumption) | assumption) | (have e_ := (Kd.N_reads' HO_8.out).1; omega)); obtain ⟨ua366_0, uc366_0, rfl, ul366_0, ge366_0⟩ := Kd.FK_slice_open hMe366; have hv366_0 := hcc366 0 _ rfl; rw [Nat.add_zero, show ((Kd.slice 5 (Kd.int .u8))).sz = 1 from rfl, Nat.mul_one] at hv366_0; replace hv366_0 := Option.some.inj (hv366_0.symm.trans hx366_0); injection hv366_0 with hva_ hvn_ hvc_; rw [hva_] at ge366_0; rw [hvc_] at ul366_0; have HL366_0 := Aside0.mk (show Kd.V (Kd.int .u8) 5 _ w.heap.size _ _ (rd_L2 x8_1 x11_2) from Kd.V_mk ul366_0 ge366_0); clear hva_ hvn_ hvc_ ge366_0 ul366_0; clear hcc366 hce366; have HR366_0 := Aside0.mk hi366_0; have HC366_0 := Aside0.mk hl366_0; clear hi366_0 hl366_0; replace p366 := eq_true p366; replace q366 := eq_true q366; have ea_ := Option.some.inj (hx364_0.symm.trans hx366_0); injection ea_ with ea_ en_ ec_; subst ea_; subst ec_; clear en_) | ((with_reducible refine gate_callee (f := 55) rfl ?_); refine goesL_ (some 48) rfl rfl Tryd.func55 (by kernel_rfl) rfl #[.slice Ao25 x0_2.length co25, .slice A364_0 (rd_L2 x8_1 x11_2).length c364_0] rfl lz ?_; (with_reducible refine (platenref05_minus.calls k2 _ _ x0_2 _ _ (rd_L2 x8_1 x11_2) t367 _ ?side1 ?side2 ?side3 ?side4 A23.out).mono ?_); (case side1 => repeat (first | exact (Kd.V_reads' HO_0.out).2.2 | (with_reducible refine Kd.C_alloc ?_ _) | (with_reducible refine Kd.C_drewN ?_ _) | (with_reducible refine Kd.C_drew ?_))); (case side2 => exact (Kd.V_reads' HO_0.out).2.1); (case side3 => repeat (first | exact (by repeat (first | (with_reducible exact HR366_0.out) | (with_reducible refine Kd.C_alloc ?_ _) | (with_reducible refine Kd.C_drewN ?_ _) | (with_reducible refine Kd.C_drew ?_) | exact HR366_0.out)) | (with_reducible refine Kd.C_alloc ?_ _) | (with_reducible refine Kd.C_drewN ?_ _) | (with_reducible refine Kd.C_drew ?_))); (case side4 => exact HC366_0.out); rintro e w26 ⟨v368, rfl, ho0, hb⟩; refine ⟨_, rfl, ?_⟩; have n0_ := Aside0.mk (Kd.V_elder' (by (with_reducible repeat (first | apply Kd.V_alloc | apply Kd.V_drewN | apply Kd.V_drew)); exact HO_0.out) (Kd.R_base ho0) hb); have n1_ := Aside0.mk (Kd.N_elder' (by (with_reducible repeat (first | apply Kd.N_alloc | apply Kd.N_drewN | apply Kd.N_drew)); exact HO_8.out) (Kd.R_base ho0) hb); have n2_ := Aside0.mk (Kd.V_elder' (by (with_reducible repeat (first | apply Kd.V_alloc | apply Kd.V_drewN | apply Kd.V_drew)); exact HL364_0.out) (Kd.R_base ho0) hb); have n3_ := Aside0.mk (Kd.V_elder' (by (with_reducible repeat (first | apply Kd.V_alloc | apply Kd.V_drewN | apply Kd.V_drew)); exact HL366_0.out) (Kd.R_base ho0) hb); have n4_ := Aside0.mk (Kd.R_lower (Kd.R_newM (M := fun k_ => (w.heap.size ≤ k_)) ho0 (below_size bz) (fun k_ h_ => h_)) (below_size bz)); have n5_ := Aside0.mk (Kd.C_below (by repeat (first | (with_reducible exact HR364_0.out) | (with_reducible refine Kd.C_alloc ?_ _) | (with_reducible refine Kd.C_drewN ?_ _) | (with_reducible refine Kd.C_drew ?_) | exact HR364_0.out)) hb); have n6_ := Aside0.mk (Kd.C_below (by repeat (first | (with_reducible exact HR366_0.out) | (with_reducible refine Kd.C_alloc ?_ _) | (with_reducible refine Kd.C_drewN ?_ _) | (with_reducible refine Kd.C_drew ?_) | exact HR366_0.out)) hb); have n7_ := Aside0.mk (below_step bz hb); clear HO_0; clear HO_8; clear HL364_0; clear HL366_0; clear HR364_0; clear HR366_0; clear HB; have HO_0 := n0_; have HO_8 := n1_; have HL364_0 := n2_; have HL366_0 := n3_; have HO369 := n4_; have HR364_0 := n5_; have HR366_0 := n6_; have HB := n7_; clear n0_ n1_ n2_ n3_ n4_ n5_ n6_ n7_; (try clear hb); (try clear hb2); (try clear hk); (try clear hi); (try clear ho0)))
          go_roundg k2
          case measure => have := HK1.out; have := HK2.out; omega
          case rel => exact ⟨(t367), (IntKind.u64.wrap ((IntKind.u64.wrap (2 * x10_2)) + 1)), (wrap64 (x11_2 - 1)), rz, rz, H', ⟨by have := HK1.out; have := HK2.out; omega⟩, ⟨Kd.V_mono (Kd.R_V (by (with_reducible repeat (first | apply Kd.R_alloc | apply Kd.R_drewN | apply Kd.R_drew)); exact Kd.R_mono (ok' := fun k_ => w.heap.size ≤ k_ ∧ some k_ ≠ (Value.slice (some ad364) x8_1.length co24).ownBlock) (Kd.R_apart' HO369.out (Kd.N_typed HO_8.out) (by decide)) (fun _ hk => ⟨hk.1.1, hk.2⟩))) (fun k_ hk => by first | exact ⟨(.inr (hk.1)), hk.2⟩ | exact (.inr (hk)))⟩, ⟨by (with_reducible repeat (first | apply Kd.N_alloc | apply Kd.N_drewN | apply Kd.N_drew)); exact Kd.N_mono HO_8.out (fun _ hk => hk.1)⟩, ⟨bz⟩⟩
        ·rw [if_neg c18] at H
         exact absurd H (by simp)
       ·rw [if_neg c17] at H
        exact absurd H (by simp)
      ·rw [if_neg c16] at H
       have c16b0 : decide (0 ≤ x11_2) = false := decide_eq_false c16
       clear c16
       simp only [Option.some.injEq, Prod.mk.injEq] at H
       obtain ⟨rfl, rfl⟩ := H
       go_wp2
       go_ret2
       exact ⟨_, by first | rfl | (simp [errW_none, errW_some] <;> rfl) | (simp [*, errW_none, errW_some] <;> rfl), by (with_reducible repeat (first | apply Kd.V_alloc | apply Kd.V_drewN | apply Kd.V_drew)); exact Kd.V_mono HO_0.out (fun _ hk => hk.1), bz⟩
end Go.Proofs.YtmeapdchnnpceaaDoor.Fn
end
section
namespace Go.Proofs.YtmeapdchnnpceaaDoor.Fn
open Go.RowKit Go.Proofs.YtmeapdchnnpceaaDoorW.PrintWords Go.Proofs.YtmeapdchnnpceaaDoorW.PrintLast Go.Proofs.YtmeapdchnnpceaaDoorW.PrintMore
attribute [local go_sem] min2_int min_two
set_option linter.unusedVariables false
set_option linter.unusedSimpArgs false
def platenref05_whole.l0 : Nat → ByteArray → List Int → Int → Option (List Int)
 | 0, _, _, _ => none
 | k + 1, x0, x5, x6 => if x6 ≥ 0 then (if 0 ≤ x6 then (if x6 < (x0.size : Int) then (if x5.length < 140737488355328 then (platenref05_whole.l0 k x0 (x5 ++ [((bt x0 x6) - 48) % 256]) (wrap64 (x6 - 1))) else (none)) else (none)) else (none)) else (some x5)
def platenref05_whole.f (k : Nat) (a0 : ByteArray) (a1 : Int) : Option (List Int) := if 0 ≤ a1 then (if (a1 : Int).toNat ≤ 281474976710656 then (platenref05_whole.l0 k a0 (List.replicate (a1 : Int).toNat 0) (wrap64 ((a0.size : Int) - 1))) else (none)) else (none)
set_option maxHeartbeats 8000000 in
set_option maxRecDepth 100000 in
theorem platenref05_whole.calls (k : Nat) (a0 : ByteArray) (a1 : Int) (r : List Int) (w : World) (h : platenref05_whole.f k a0 a1 = some r) :
  Calls Tryd.prog 38 #[.string a0, .int .i64 a1] w fun e w' => ∃ v0_ : Value, e = .returned (v0_) ∧ Kd.R (Kd.int .u8) 5 w' w.heap.size (fun _ => True) v0_ r ∧ Below w.heap.size w w' := by
 have HB := Aside0.mk (Below.refl w.heap.size w)
 have H : (if 0 ≤ a1 then (if (a1 : Int).toNat ≤ 281474976710656 then (platenref05_whole.l0 k a0 (List.replicate (a1 : Int).toNat 0) (wrap64 ((a0.size : Int) - 1))) else (none)) else (none)) = some r := h
 clear h
 by_cases c3 : 0 ≤ a1
 ·rw [if_pos c3] at H
  have c3b0 := eq_true c3
  have c3b1 : decide (0 ≤ a1) = true := decide_eq_true c3
  clear c3
  by_cases c4 : (a1 : Int).toNat ≤ 281474976710656
  ·rw [if_pos c4] at H
   have c4b0 := eq_true c4
   have c4b1 : decide ((a1 : Int).toNat ≤ 281474976710656) = true := decide_eq_true c4
   clear c4
   obtain ⟨y327, hy327⟩ : ∃ y_ : List Int, y_ = (List.replicate (a1 : Int).toNat 0) := ⟨_, rfl⟩
   replace H : (platenref05_whole.l0 k a0 y327 (wrap64 ((a0.size : Int) - 1))) = some r := by first | (rw [hy327]; with_reducible exact H) | (have H2_ := (Option.bind_some _ _).symm.trans H; rw [hy327]; with_reducible exact H2_) | (have H2_ := (Option.bind_some _ _).symm.trans H; with_reducible exact H2_) | with_reducible exact H | (rw [hy327]; exact H) | exact H
   have Ny327 := Aside0.mk hy327
   clear hy327
   have H' := Aside0.mk H
   clear H
   go_enter Tryd.func38, Tryd.ntmps38
   go_wp2_with (first | ((with_reducible refine gate_dst (N := 8) rfl ?_); refine Kd.R_make (Kd.int .u8) _ 5 rfl (N := 8) rfl 63 _ _ rfl a1 rfl rfl Tryd.underlying63 (.int .u8 0) 1 info5 rfl (by decide) (by omega) 0 (ok := fun _ => True) (okp := fun _ => True) rfl (fun _ hk => hk) trivial (of_decide_eq_true (by first | (with_reducible assumption) | assumption)) (Nat.le_trans (Nat.mul_le_mul_right _ (of_decide_eq_true (by first | (with_reducible assumption) | assumption) : a1.toNat ≤ 281474976710656)) (by omega)) (Below.refl _ _) (Nat.le_refl _) ?_; intro v328 w5 ho6 hb hg_ hnew_; clear hg_ hnew_; (first | rw [← Ny327.out] at ho6 | (simp only [Int.reduceToNat] at ho6; rw [← Ny327.out] at ho6)); have n0_ := Aside0.mk (Kd.R_lower ho6 (below_size bz)); have n1_ := Aside0.mk (below_step bz hb); clear HB; have HO329 := n0_; have HB := n1_; clear n0_ n1_; clear hb ho6))
   go_loopg [5, 6] k (fun kq v5 v6 w' => ∃ (x5_1 : List Int) (x6_1 : Int), v6 = .int .i64 x6_1 ∧ Aside0 (platenref05_whole.l0 kq a0 x5_1 x6_1 = some r) ∧ Aside0 (kq ≤ k) ∧ Aside0 (Kd.R (Kd.int .u8) 5 w' w.heap.size (fun _ => True) v5 x5_1) ∧ Aside0 (Below w.heap.size w w'))
   case atStart => exact ⟨(y327), (wrap64 ((a0.size : Int) - 1)), rz, H', ⟨Nat.le_refl _⟩, ⟨by (with_reducible repeat (first | apply Kd.R_alloc | apply Kd.R_drewN | apply Kd.R_drew)); exact HO329.out⟩, ⟨bz⟩⟩
   case round =>
    clear H'
    try clear c3
    try clear c3b0
    try clear c3b1
    try clear c4
    try clear c4b0
    try clear c4b1
    obtain ⟨x5_1, x6_1, rfl, HA, HK1, HO_5, HB⟩ := hrel
    cases gk with
    | zero => exact absurd HA.out (by simp [platenref05_whole.l0])
    | succ k1 =>
     have H := HA.out
     clear HA
     simp only [platenref05_whole.l0] at H
     by_cases c7 : x6_1 ≥ 0
     ·rw [if_pos c7] at H
      have c7b0 : decide (0 ≤ x6_1) = true := decide_eq_true c7
      clear c7
      by_cases c8 : 0 ≤ x6_1
      ·rw [if_pos c8] at H
       have c8b0 := decide_eq_true c8
       clear c8
       by_cases c9 : x6_1 < (a0.size : Int)
       ·rw [if_pos c9] at H
        have c9b0 := decide_eq_true c9
        clear c9
        by_cases c11 : x5_1.length < 140737488355328
        ·rw [if_pos c11] at H
         have LMc11 := Aside0.mk c11
         clear c11
         obtain ⟨y330, hy330⟩ : ∃ y_ : List Int, y_ = (x5_1 ++ [((bt a0 x6_1) - 48) % 256]) := ⟨_, rfl⟩
         replace H : (platenref05_whole.l0 k1 a0 y330 (wrap64 (x6_1 - 1))) = some r := by first | (rw [hy330]; with_reducible exact H) | (have H2_ := (Option.bind_some _ _).symm.trans H; rw [hy330]; with_reducible exact H2_) | (have H2_ := (Option.bind_some _ _).symm.trans H; with_reducible exact H2_) | with_reducible exact H | (rw [hy330]; exact H) | exact H
         have Ny330 := Aside0.mk hy330
         clear hy330
         have H' := Aside0.mk H
         clear H
         have p10 : 0 ≤ (x6_1 : Int) := of_decide_eq_true (by first | (with_reducible assumption) | assumption)
         have q10 : x6_1 < (a0.size : Int) := of_decide_eq_true (by first | (with_reducible assumption) | assumption)
         have hx10 := bt_at a0 x6_1
         replace p10 := eq_true p10
         replace q10 := eq_true q10
         go_wp2_with (first | ((with_reducible refine gate_builtin (b := .append) (xs := #[.tmp 16, .tmp 21]) rfl ?_); at_builtin; refine Kd.R_append (Kd.int .u8) (w0 := w) w.heap.size rfl (.tmp 16) (.tmp 21) 63 5 (.int .u8 0) 1 rfl Tryd.underlying63 info5 rfl (by decide) (by omega) u5 x5_1 (((bt a0 x6_1) - 48) % 256) [.int .u8 (((bt a0 x6_1) - 48) % 256)] (fun _ => True) (fun _ => False) rfl rfl ?aP (fun _ hk => hk.elim) ?aF ?aO ?aB ?aS ?aL ?_; (case aP => exact rfl); (case aB => exact bz); (case aF => exact (fun _ _ => trivial)); (case aO => exact (by (with_reducible repeat (first | apply Kd.R_alloc | apply Kd.R_drewN | apply Kd.R_drew)); exact HO_5.out)); (case aS => exact (below_size bz)); (case aL => have := LMc11.out; omega); intro v331 w12 ho hb hg hat; rw [← Ny330.out] at ho; have n0_ := Aside0.mk (hb); have n1_ := Aside0.mk (ho); clear HB; clear HO_5; have HB := n0_; have HO332 := n1_; clear n0_ n1_; clear ho hb hg hat))
         go_roundg k1
         case measure => have := HK1.out; omega
         case rel => exact ⟨(y330), (wrap64 (x6_1 - 1)), rz, H', ⟨by have := HK1.out; omega⟩, ⟨by (with_reducible repeat (first | apply Kd.R_alloc | apply Kd.R_drewN | apply Kd.R_drew)); exact HO332.out⟩, ⟨bz⟩⟩
        ·rw [if_neg c11] at H
         exact absurd H (by simp)
       ·rw [if_neg c9] at H
        exact absurd H (by simp)
      ·rw [if_neg c8] at H
       exact absurd H (by simp)
     ·rw [if_neg c7] at H
      have c7b0 : decide (0 ≤ x6_1) = false := decide_eq_false c7
      clear c7
      obtain rfl := Option.some.inj H
      go_wp2
      go_ret
      exact ⟨_, by first | rfl | (simp [errW_none, errW_some] <;> rfl) | (simp [*, errW_none, errW_some] <;> rfl), by (with_reducible repeat (first | apply Kd.R_alloc | apply Kd.R_drewN | apply Kd.R_drew)); exact HO_5.out, bz⟩
  ·rw [if_neg c4] at H
   exact absurd H (by simp)
 ·rw [if_neg c3] at H
  exact absurd H (by simp)
end Go.Proofs.YtmeapdchnnpceaaDoor.Fn
end
