/- The law ShortLeast: the walks through its functions and its plain law (part 2). Own texts and the kit's printed words for this seat, without what the law does not use: put together by merge.py (of this work). -/
import Derived.Test.YtmeapdchnnpceaaDoorMShortLeast1
section
namespace Go.Proofs.YtmeapdchnnpceaaDoor.Fn
open Go.RowKit Go.Proofs.YtmeapdchnnpceaaDoorW.PrintWords Go.Proofs.YtmeapdchnnpceaaDoorW.PrintLast Go.Proofs.YtmeapdchnnpceaaDoorW.PrintMore
attribute [local go_sem] min2_int min_two
set_option linter.unusedVariables false
set_option linter.unusedSimpArgs false
def short_Parts.f (a0 : Int) (a1 : Int) : Option (Bool × Int × Int × Int) := (short_of.f a1).bind fun bt183 => (if bt183.2.2.2 = true then (if 0 ≤ (wrap64 (a1 - 1)) then (if (Go.bits .and .u64 a0 (IntKind.u64.wrap ((shl .u64 1 (wrap64 (a1 - 1))) - 1))) = bt183.2.2.1 then (some (((Go.bits .and .u64 (shr .u64 a0 (wrap64 (a1 - 1))) 1) == 1), 0, 0, 1)) else (if (Go.bits .and .u64 a0 (IntKind.u64.wrap ((shl .u64 1 (wrap64 (a1 - 1))) - 1))) > bt183.2.2.1 then (some (((Go.bits .and .u64 (shr .u64 a0 (wrap64 (a1 - 1))) 1) == 1), 0, 0, 2)) else ((short_shape_value.f bt183.1 bt183.2.1 bt183.2.2.1 (Go.bits .and .u64 a0 (IntKind.u64.wrap ((shl .u64 1 (wrap64 (a1 - 1))) - 1)))).bind fun bt188 => (some (((Go.bits .and .u64 (shr .u64 a0 (wrap64 (a1 - 1))) 1) == 1), bt188.1, bt188.2, 0))))) else (none)) else (some (false, 0, 0, 3)))
set_option maxHeartbeats 8000000 in
set_option maxRecDepth 100000 in
theorem short_Parts.calls (a0 : Int) (a1 : Int) (r1 : Bool) (r2 : Int) (r3 : Int) (r4 : Int) (w : World) (h : short_Parts.f a0 a1 = some (r1, r2, r3, r4)) :
  Calls Tryd.prog 13 #[.int .u64 a0, .int .i64 a1] w fun e w' => e = .returned (.tuple #[.bool r1, .int .u64 r2, .int .i64 r3, .int .i64 r4]) ∧ Below w.heap.size w w' := by
 have hu50 := Tryd.underlying50
 have HB := Aside0.mk (Below.refl w.heap.size w)
 have H : ((short_of.f a1).bind fun bt183 => (if bt183.2.2.2 = true then (if 0 ≤ (wrap64 (a1 - 1)) then (if (Go.bits .and .u64 a0 (IntKind.u64.wrap ((shl .u64 1 (wrap64 (a1 - 1))) - 1))) = bt183.2.2.1 then (some (((Go.bits .and .u64 (shr .u64 a0 (wrap64 (a1 - 1))) 1) == 1), 0, 0, 1)) else (if (Go.bits .and .u64 a0 (IntKind.u64.wrap ((shl .u64 1 (wrap64 (a1 - 1))) - 1))) > bt183.2.2.1 then (some (((Go.bits .and .u64 (shr .u64 a0 (wrap64 (a1 - 1))) 1) == 1), 0, 0, 2)) else ((short_shape_value.f bt183.1 bt183.2.1 bt183.2.2.1 (Go.bits .and .u64 a0 (IntKind.u64.wrap ((shl .u64 1 (wrap64 (a1 - 1))) - 1)))).bind fun bt188 => (some (((Go.bits .and .u64 (shr .u64 a0 (wrap64 (a1 - 1))) 1) == 1), bt188.1, bt188.2, 0))))) else (none)) else (some (false, 0, 0, 3)))) = some (r1, r2, r3, r4) := h
 clear h
 replace H := bs H
 obtain ⟨⟨t183, t184, t185, t186⟩, A3, H⟩ := H
 dsimp only at H
 go_enter Tryd.func13, Tryd.ntmps13
 go_upto_if 20 with (first | ((with_reducible refine gate_callee (f := 27) rfl ?_); refine goesL_ (some 16) rfl rfl Tryd.func27 (by kernel_rfl) rfl #[.int .i64 a1] rfl lz ?_; (with_reducible refine (short_of.calls a1 t183 t184 t185 t186 _ A3.out).mono ?_); rintro e w4 ⟨rfl, hb⟩; refine ⟨_, rfl, ?_⟩; replace HB := bN bz hb; (try clear hb); (try clear hb2); (try clear hk); (try clear hi)) | ((with_reducible refine gate_dst (N := 8) rfl ?_); refine box_event rfl (N := 8) rfl (cs := #[.int .i64 0, .int .i64 0, .int .u64 0]) (t := 50) gz ?_; intro gb187 hg w5 hbox hb; have GE187 := gN bz hg; have BK187 := Aside0.mk hbox; replace HB := bN bz hb; clear hb hbox hg; obtain ⟨hcz6_0, hcz6_1, hcz6_2, hfz6_0, hfz6_1, hfz6_2⟩ := cz3 (W := w5) BK187))
 (try simp only [Act.put, List.setIfInBounds_toArray, List.set_cons_zero, List.set_cons_succ])
 by_cases c7 : t186 = true
 ·subst c7
  replace H := hT H
  obtain ⟨ji8, hji8⟩ : ∃ j_ : Int, (wrap64 (a1 - 1)) = j_ := ⟨_, rfl⟩
  (first | rw [hji8] at H | simp only [hji8] at H)
  have hji8w : (IntKind.i64.wrap (a1 - 1)) = ji8 := (i64_w _).trans hji8
  by_cases c9 : 0 ≤ (ji8)
  ·rw [if_pos c9] at H
   have c9b0 := eq_true c9
   have c9b1 : decide (0 ≤ (ji8)) = true := decide_eq_true c9
   clear c9
   obtain ⟨ji10, hji10⟩ : ∃ j_ : Int, (shr .u64 a0 (ji8)) = j_ := ⟨_, rfl⟩
   (first | rw [hji10] at H | simp only [hji10] at H)
   have hji10_ : (a0 / 2 ^ min (ji8).toNat 64) = ji10 := hji10
   have hji10z : (ji8) ≤ 64 → (a0 / 2 ^ (ji8).toNat) = ji10 := shr_small hji10
   have c11b0 := eq_true (of_decide_eq_true (by first | (with_reducible assumption) | assumption) : 0 ≤ (ji8))
   obtain ⟨ji12, hji12⟩ : ∃ j_ : Int, (shl .u64 1 (ji8)) = j_ := ⟨_, rfl⟩
   (first | rw [hji12] at H | simp only [hji12] at H)
   have hji12_ : (IntKind.u64.wrap (1 * 2 ^ min (ji8).toNat 64)) = ji12 := hji12
   have hji12z : (ji8) ≤ 64 → (IntKind.u64.wrap (1 * 2 ^ (ji8).toNat)) = ji12 := shl_small hji12
   have hji12u : (IntKind.u64.wrap (2 ^ min (ji8).toNat 64)) = ji12 := by have h_ := hji12_; rw [Int.one_mul] at h_; exact h_
   have hji12v : (ji8) ≤ 64 → (IntKind.u64.wrap (2 ^ (ji8).toNat)) = ji12 := fun hle_ => by have h_ := hji12z hle_; rw [Int.one_mul] at h_; exact h_
   by_cases c13 : (Go.bits .and .u64 a0 (IntKind.u64.wrap ((ji12) - 1))) = t185
   ·rw [if_pos c13] at H
    obtain ⟨c13b0, c13b1⟩ := eT c13
    clear c13
    (first | rw [c13b0] | rw [c13b1] | (simp only [i64_w, i32_w]; rw [c13b0]) | skip)
    simp only [Option.some.injEq, Prod.mk.injEq] at H
    obtain ⟨rfl, rfl, rfl, rfl⟩ := H
    obtain ⟨hcz14_0, hcz14_1, hcz14_2, hfz14_0, hfz14_1, hfz14_2⟩ := cz3 (W := w5) BK187
    go_wp2
    refine bodyPost_ret (results_list (rs := [.tmp 4, .tmp 5, .tmp 6, .tmp 7]) rfl (by simp) (.tmp (.tmp (.tmp (.tmp .nil))))) rfl ?_
    exact ⟨by first | rfl | (simp [errW_none, errW_some] <;> rfl) | (simp only [← hji8, ← hji10, ← hji12]; first | rfl | (simp [errW_none, errW_some] <;> rfl)) | (simp [*, errW_none, errW_some] <;> rfl), bz⟩
   ·rw [if_neg c13] at H
    obtain ⟨c13b0, c13b1⟩ := eF c13
    (first | rw [c13b0] | rw [c13b1] | (simp only [i64_w, i32_w]; rw [c13b0]) | skip)
    by_cases c15 : (Go.bits .and .u64 a0 (IntKind.u64.wrap ((ji12) - 1))) > t185
    ·rw [if_pos c15] at H
     have c15b0 : decide (t185 < (Go.bits .and .u64 a0 (IntKind.u64.wrap ((ji12) - 1)))) = true := decide_eq_true c15
     clear c15
     simp only [Option.some.injEq, Prod.mk.injEq] at H
     obtain ⟨rfl, rfl, rfl, rfl⟩ := H
     obtain ⟨hcz16_0, hcz16_1, hcz16_2, hfz16_0, hfz16_1, hfz16_2⟩ := cz3 (W := w5) BK187
     go_wp2
     refine bodyPost_ret (results_list (rs := [.tmp 4, .tmp 5, .tmp 6, .tmp 7]) rfl (by simp) (.tmp (.tmp (.tmp (.tmp .nil))))) rfl ?_
     exact ⟨by first | rfl | (simp [errW_none, errW_some] <;> rfl) | (simp only [← hji8, ← hji10, ← hji12]; first | rfl | (simp [errW_none, errW_some] <;> rfl)) | (simp [*, errW_none, errW_some] <;> rfl), bz⟩
    ·rw [if_neg c15] at H
     have c15b0 : decide (t185 < (Go.bits .and .u64 a0 (IntKind.u64.wrap ((ji12) - 1)))) = false := decide_eq_false c15
     clear c15
     replace H := bs H
     obtain ⟨⟨t188, t189⟩, A17, H⟩ := H
     dsimp only at H
     simp only [Option.some.injEq, Prod.mk.injEq] at H
     obtain ⟨rfl, rfl, rfl, rfl⟩ := H
     obtain ⟨hcz18_0, hcz18_1, hcz18_2, hfz18_0, hfz18_1, hfz18_2⟩ := cz3 (W := w5) BK187
     go_wp2_with (first | ((with_reducible refine gate_callee (f := 28) rfl ?_); refine goesL_ (some 36) rfl rfl Tryd.func28 (by kernel_rfl) rfl #[.agg #[.int .i64 t183, .int .i64 t184, .int .u64 t185], .int .u64 (Go.bits .and .u64 a0 (IntKind.u64.wrap ((ji12) - 1)))] rfl (by (try simp only [List.map_toArray, List.map_cons, List.map_nil]); first | done | (simp only [hji12]; rfl) | rfl | (simp only [List.length_drop, List.length_take]; rfl)) ?_; (with_reducible refine (short_shape_value.calls t183 t184 t185 (Go.bits .and .u64 a0 (IntKind.u64.wrap ((ji12) - 1))) t188 t189 _ A17.out).mono ?_); rintro e w19 ⟨rfl, hb⟩; refine ⟨_, rfl, ?_⟩; replace BK187 := kN (g := gb187) (cs := #[.int .i64 t183, .int .i64 t184, .int .u64 t185]) hb bk; replace HB := bN bz hb; (try clear hb); (try clear hb2); (try clear hk); (try clear hi)))
     refine bodyPost_ret (results_list (rs := [.tmp 4, .tmp 5, .tmp 6, .tmp 7]) rfl (by simp) (.tmp (.tmp (.tmp (.tmp .nil))))) rfl ?_
     exact ⟨by first | rfl | (simp [errW_none, errW_some] <;> rfl) | (simp only [← hji8, ← hji10, ← hji12]; first | rfl | (simp [errW_none, errW_some] <;> rfl)) | (simp [*, errW_none, errW_some] <;> rfl), bz⟩
  ·rw [if_neg c9] at H
   exact absurd H (by simp)
 ·replace c7 := Bool.eq_false_iff.mpr c7
  subst c7
  replace H := hF H
  simp only [Option.some.injEq, Prod.mk.injEq] at H
  obtain ⟨rfl, rfl, rfl, rfl⟩ := H
  go_wp2
  refine bodyPost_ret (results_list (rs := [.tmp 4, .tmp 5, .tmp 6, .tmp 7]) rfl (by simp) (.tmp (.tmp (.tmp (.tmp .nil))))) rfl ?_
  exact ⟨ez, bz⟩
end Go.Proofs.YtmeapdchnnpceaaDoor.Fn
end
section
namespace Go.Proofs.YtmeapdchnnpceaaDoor.Pure
open Go.RowKit Go.Proofs.YtmeapdchnnpceaaDoor.Fn Go.Proofs.YtmeapdchnnpceaaDoorW.PrintWords
set_option linter.unusedVariables false
set_option linter.unusedSimpArgs false
def szB (wide : Bool) : Int := if wide then 64 else 32
def ff (wide : Bool) : Nat := if wide then 52 else 23
def ll (wide : Bool) : Nat := if wide then 1074 else 149
def ii (wide : Bool) : Nat := if wide then 9218868437227405312 else 2139095040
def tt (wide : Bool) : Nat := if wide then 9223372036854775808 else 2147483648
theorem of_eq' (wide : Bool) : short_of.f (szB wide) = some ((ff wide : Int), -(ll wide : Int), (ii wide : Int), true) := by
  cases wide <;> simp [short_of.f, szB, ff, ll, ii]
theorem and_mask (j p : Nat) (hj : j ≤ 64) (hp : p < 18446744073709551616) : Go.bits .and .u64 (p : Int) ((2 ^ j - 1 : Nat) : Int) = ((p % 2 ^ j : Nat) : Int) := by
  have h2 : 2 ^ j ≤ 2 ^ 64 := Nat.pow_le_pow_right (by omega) hj
  have hpos : 0 < 2 ^ j := Nat.pow_pos (by omega)
  have e : (2 : Nat) ^ 64 = 18446744073709551616 := by decide
  rw [u64_and_nat _ _ hp (by omega), Nat.and_two_pow_sub_one_eq_mod]
theorem or_add (j x : Nat) (hj : j ≤ 63) (hx : x < 2 ^ j) : Go.bits .or .u64 (x : Int) ((2 ^ j : Nat) : Int) = ((x + 2 ^ j : Nat) : Int) := by
  have h2 : 2 ^ j ≤ 2 ^ 63 := Nat.pow_le_pow_right (by omega) hj
  have e : (2 : Nat) ^ 63 = 9223372036854775808 := by decide
  rw [u64_or_nat _ _ (by omega) (by omega), Nat.or_comm]
  have := Nat.two_pow_add_eq_or_of_lt hx 1
  rw [Nat.mul_one] at this
  rw [← this, Nat.add_comm]
theorem ff_lt (wide : Bool) : ff wide ≤ 52 := by cases wide <;> simp [ff]
theorem shr_eq (p j : Nat) (hj : j ≤ 64) : shr .u64 (p : Int) (j : Int) = ((p / 2 ^ j : Nat) : Int) := by
  unfold shr
  rw [Int.toNat_natCast, show min j (IntKind.u64.bits) = j from Nat.min_eq_left (by simpa [IntKind.bits] using hj)]
  simp
theorem shl_one (j : Nat) (hj : j ≤ 63) : shl .u64 1 (j : Int) = ((2 ^ j : Nat) : Int) := by
  have h2 : 2 ^ j ≤ 2 ^ 63 := Nat.pow_le_pow_right (by omega) hj
  have e : (2 : Nat) ^ 63 = 9223372036854775808 := by decide
  unfold shl
  rw [Int.toNat_natCast, show min j (IntKind.u64.bits) = j from Nat.min_eq_left (by simp [IntKind.bits]; omega), Int.one_mul]
  rw [show ((2 : Int) ^ j) = ((2 ^ j : Nat) : Int) by simp]
  generalize 2 ^ j = P at *
  exact u64_id (by omega) (by omega)
theorem mask_one (j : Nat) (hj : j ≤ 63) : IntKind.u64.wrap (shl .u64 1 (j : Int) - 1) = ((2 ^ j - 1 : Nat) : Int) := by
  have hpos : 0 < 2 ^ j := Nat.pow_pos (by omega)
  have h2 : 2 ^ j ≤ 2 ^ 63 := Nat.pow_le_pow_right (by omega) hj
  have e : (2 : Nat) ^ 63 = 9223372036854775808 := by decide
  rw [shl_one j hj]
  generalize 2 ^ j = P at *
  rw [u64_id (x := (P : Int) - 1) (by omega) (by omega)]
  omega
theorem value_eq (wide : Bool) (p : Nat) (hp : p < 9223372036854775808) :
    short_shape_value.f (ff wide : Int) (-(ll wide : Int)) (ii wide : Int) (p : Int) = some ((fM (ff wide) p : Int), (fE (ff wide) p : Int) - (ll wide : Int)) := by
  have hf := ff_lt wide
  have hl : ll wide ≤ 1074 := by cases wide <;> simp [ll]
  unfold short_shape_value.f
  rw [if_pos (by omega), shr_eq p _ (by omega), mask_one _ (by omega), and_mask _ _ (by omega) (by omega), shl_one _ (by omega)]
  have hd : p / 2 ^ ff wide ≤ p := Nat.div_le_self _ _
  unfold fM fE
  have hpos : 0 < 2 ^ ff wide := Nat.pow_pos (by omega)
  have hm := Nat.mod_lt p hpos
  by_cases c : p / 2 ^ ff wide = 0
  · rw [if_pos c, c, if_pos (by simp [wrap64])]
    congr 2
    omega
  · rw [if_neg c, or_add _ _ (by omega) hm]
    generalize p / 2 ^ ff wide = q at *
    rw [if_neg (by rw [wrap_id (by omega) (by omega)]; omega), wrap_id (x := (q : Int)) (by omega) (by omega), wrap_id (x := -(ll wide : Int) + (q : Int)) (by omega) (by omega), wrap_id (by omega) (by omega)]
    congr 2
    omega
def bareN (wide : Bool) (a : Nat) : Nat := a % tt wide
def partsS (wide : Bool) (a : Nat) : Bool × Int × Int × Int :=
  ((a / tt wide % 2 == 1 : Bool), if bareN wide a < ii wide then ((fM (ff wide) (bareN wide a) : Int), (fE (ff wide) (bareN wide a) : Int) - (ll wide : Int), 0) else (0, 0, if bareN wide a = ii wide then 1 else 2))
theorem tt_pow (wide : Bool) : ∃ j : Nat, j ≤ 63 ∧ tt wide = 2 ^ j ∧ wrap64 (szB wide - 1) = (j : Int) := by
  cases wide
  · exact ⟨31, by omega, by decide, by simp [szB, wrap64]⟩
  · exact ⟨63, by omega, by decide, by simp [szB, wrap64]⟩
theorem tt_le (wide : Bool) : 0 < tt wide ∧ tt wide ≤ 9223372036854775808 := by cases wide <;> simp [tt]
theorem ii_lt (wide : Bool) : 0 < ii wide ∧ ii wide < tt wide ∧ ii wide ≤ 9218868437227405312 := by cases wide <;> simp [ii, tt]
theorem neg_eq (wide : Bool) (x : Nat) : (((x % 2 : Nat) : Int) == 1) = (x % 2 == 1 : Bool) := by
  rw [Bool.eq_iff_iff]
  simp
  omega
theorem parts_eq (wide : Bool) (a : Nat) (ha : a < 18446744073709551616) : short_Parts.f (a : Int) (szB wide) = some (partsS wide a) := by
  obtain ⟨j, hj, ht, hw⟩ := tt_pow wide
  have hmt := Nat.mod_lt a (tt_le wide).1
  have htt := (tt_le wide).2
  unfold short_Parts.f
  rw [of_eq']
  simp only [Option.bind_some]
  rw [if_pos trivial, hw, if_pos (by omega), mask_one _ hj, and_mask _ _ (by omega) ha, ← ht, shr_eq _ _ (by omega), ← ht]
  rw [show (1 : Int) = ((2 ^ 1 - 1 : Nat) : Int) from rfl, and_mask _ _ (by omega) (Nat.lt_of_le_of_lt (Nat.div_le_self _ _) ha), value_eq wide _ (by omega)]
  simp only [Option.bind_some]
  unfold partsS bareN
  rw [show (((2 ^ 1 - 1 : Nat)) : Int) = 1 from rfl, show (2 : Nat) ^ 1 = 2 from rfl, neg_eq wide]
  generalize a % tt wide = p at *
  by_cases c1 : p = ii wide
  · rw [if_pos (by omega), if_neg (by omega), if_pos c1]
  · rw [if_neg (by omega)]
    by_cases c2 : p < ii wide
    · rw [if_neg (by omega), if_pos c2]
    · rw [if_pos (by omega), if_neg c2, if_neg c1]
theorem u64N (x : Nat) (h : x ≤ 18446744073709551615) : IntKind.u64.wrap (x : Int) = (x : Int) := u64_id (by omega) (by omega)
theorem i64N (x : Nat) (h : x ≤ 9223372036854775807) : wrap64 (x : Int) = (x : Int) := wrap_id (by omega) (by omega)
theorem tdivN (a b : Nat) : Int.tdiv (a : Int) (b : Int) = ((a / b : Nat) : Int) := by rw [tdiv_id (by omega)]; simp
theorem tmodN (a b : Nat) : Int.tmod (a : Int) (b : Int) = ((a % b : Nat) : Int) := by rw [tmod_id (by omega)]; simp
theorem ll_le (wide : Bool) : ll wide ≤ 1074 := by cases wide <;> simp [ll]
end Go.Proofs.YtmeapdchnnpceaaDoor.Pure
end
section
namespace Go.Proofs.YtmeapdchnnpceaaDoor.Fn
open Go.RowKit Go.Proofs.YtmeapdchnnpceaaDoorW.PrintWords Go.Proofs.YtmeapdchnnpceaaDoorW.PrintLast Go.Proofs.YtmeapdchnnpceaaDoorW.PrintMore
attribute [local go_sem] min2_int min_two
set_option linter.unusedVariables false
set_option linter.unusedSimpArgs false
def short_cmp.f (k : Nat) (a0_0 : ByteArray) (a0_1 : Int) (a1_0 : ByteArray) (a1_1 : Int) : Option (Int) := (bigdec_Cmp.f k a0_0 a0_1 a1_0 a1_1).bind fun bt138 => (some bt138.1)
set_option maxHeartbeats 8000000 in
set_option maxRecDepth 100000 in
theorem short_cmp.calls (k : Nat) (a0_0 : ByteArray) (a0_1 : Int) (a1_0 : ByteArray) (a1_1 : Int) (r : Int) (w : World) (h : short_cmp.f k a0_0 a0_1 a1_0 a1_1 = some r) :
  Calls Tryd.prog 34 #[.agg #[.string a0_0, .int .i64 a0_1], .agg #[.string a1_0, .int .i64 a1_1]] w fun e w' => e = .returned (.int .i64 r) ∧ Below w.heap.size w w' := by
 have hu28 := Tryd.underlying28
 have HB := Aside0.mk (Below.refl w.heap.size w)
 have H : ((bigdec_Cmp.f k a0_0 a0_1 a1_0 a1_1).bind fun bt138 => (some bt138.1)) = some r := h
 clear h
 replace H := bs H
 obtain ⟨⟨t138, t139⟩, A3, H⟩ := H
 dsimp only at H
 obtain rfl := Option.some.inj H
 go_enter Tryd.func34, Tryd.ntmps34
 go_wp2_with (first | ((with_reducible refine gate_dst (N := 2) rfl ?_); refine box_event rfl (N := 2) rfl (cs := #[.string a0_0, .int .i64 a0_1]) (t := 28) gz ?_; intro gb136 hg w4 hbox hb; have GE136 := gN bz hg; have BK136 := Aside0.mk hbox; replace HB := bN bz hb; clear hb hbox hg) | ((with_reducible refine gate_dst (N := 3) rfl ?_); refine box_event rfl (N := 3) rfl (cs := #[.string a1_0, .int .i64 a1_1]) (t := 28) gz ?_; intro gb137 hg w5 hbox hb; have GE137 := gN bz hg; have NB136_137 := lN (g := gb136) (cs := #[.string a0_0, .int .i64 a0_1]) hg bk; have NB137_136 := rN (g := gb136) (cs := #[.string a0_0, .int .i64 a0_1]) hg bk; replace BK136 := kN (g := gb136) (cs := #[.string a0_0, .int .i64 a0_1]) hb bk; have BK137 := Aside0.mk hbox; replace HB := bN bz hb; clear hb hbox hg; have hnb6 := NB136_137.out; have hnc6 := NB137_136.out; obtain ⟨hcz7_0, hcz7_1, hfz7_0, hfz7_1⟩ := cz2 (W := w5) BK136; obtain ⟨hcz8_0, hcz8_1, hfz8_0, hfz8_1⟩ := cz2 (W := w5) BK137) | ((with_reducible refine gate_callee (f := 26) rfl ?_); refine goesL_ (some 10) rfl rfl Tryd.func26 (by kernel_rfl) rfl #[.agg #[.string a0_0, .int .i64 a0_1], .agg #[.string a1_0, .int .i64 a1_1]] rfl lz ?_; (with_reducible refine (bigdec_Cmp.calls k a0_0 a0_1 a1_0 a1_1 t138 t139 _ A3.out).mono ?_); rintro e w9 ⟨rfl, hb⟩; refine ⟨_, rfl, ?_⟩; replace BK136 := kN (g := gb136) (cs := #[.string a0_0, .int .i64 a0_1]) hb bk; replace BK137 := kN (g := gb137) (cs := #[.string a1_0, .int .i64 a1_1]) hb bk; replace HB := bN bz hb; (try clear hb); (try clear hb2); (try clear hk); (try clear hi)))
 go_ret
 exact ⟨ez, bz⟩
end Go.Proofs.YtmeapdchnnpceaaDoor.Fn
end
section
namespace Go.Proofs.YtmeapdchnnpceaaDoor.Fn
open Go.RowKit Go.Proofs.YtmeapdchnnpceaaDoorW.PrintWords Go.Proofs.YtmeapdchnnpceaaDoorW.PrintLast Go.Proofs.YtmeapdchnnpceaaDoorW.PrintMore
attribute [local go_sem] min2_int min_two
set_option linter.unusedVariables false
set_option linter.unusedSimpArgs false
def short_span_in.f (k : Nat) (a0_0 : ByteArray) (a0_1 : Int) (a0_2 : ByteArray) (a0_3 : Int) (a0_4 : Bool) (a1_0 : ByteArray) (a1_1 : Int) : Option (Bool) := (short_cmp.f k a1_0 a1_1 a0_0 a0_1).bind fun t180 => ((short_cmp.f k a1_0 a1_1 a0_2 a0_3).bind fun t181 => (if t180 > 0 then (if t181 < 0 then (some true) else (if a0_4 = true then (if t180 ≥ 0 then (some (decide (t181 ≤ 0))) else (some false)) else (some false))) else (if a0_4 = true then (if t180 ≥ 0 then (some (decide (t181 ≤ 0))) else (some false)) else (some false))))
def short_span_in.T1 : Bool × List (List Nat × List Nat) := (true, [([], []), ([], []), ([1], [1]), ([0, 2], [0, 2]), ([], []), ([], []), ([5], [5]), ([4, 6, 3], [4, 6]), ([3, 7, 0, 1, 2, 3], [3]), ([7, 8, 0, 1, 2, 3, 4, 5, 6, 7, 8], [7])])
def short_span_in.B1 : List Nat := [0, 0, 2, 7, 0, 0, 32, 127, 255, 511]
theorem short_span_in.tab1 : rtab .any (opsOf Tryd.f42 1) = short_span_in.T1 := by kernel_rfl
theorem short_span_in.bits1 : waitsOk short_span_in.T1.2 short_span_in.B1 = true := by kernel_rfl
set_option maxHeartbeats 8000000 in
set_option maxRecDepth 100000 in
theorem short_span_in.calls (k : Nat) (a0_0 : ByteArray) (a0_1 : Int) (a0_2 : ByteArray) (a0_3 : Int) (a0_4 : Bool) (a1_0 : ByteArray) (a1_1 : Int) (r : Bool) (w : World) (h : short_span_in.f k a0_0 a0_1 a0_2 a0_3 a0_4 a1_0 a1_1 = some r) :
  Calls Tryd.prog 42 #[.agg #[.string a0_0, .int .i64 a0_1, .string a0_2, .int .i64 a0_3, .bool a0_4], .agg #[.string a1_0, .int .i64 a1_1]] w fun e w' => e = .returned (.bool r) ∧ Below w.heap.size w w' := by
 have hu70 := Tryd.underlying70
 have hu28 := Tryd.underlying28
 have HB := Aside0.mk (Below.refl w.heap.size w)
 have H : ((short_cmp.f k a1_0 a1_1 a0_0 a0_1).bind fun t180 => ((short_cmp.f k a1_0 a1_1 a0_2 a0_3).bind fun t181 => (if t180 > 0 then (if t181 < 0 then (some true) else (if a0_4 = true then (if t180 ≥ 0 then (some (decide (t181 ≤ 0))) else (some false)) else (some false))) else (if a0_4 = true then (if t180 ≥ 0 then (some (decide (t181 ≤ 0))) else (some false)) else (some false))))) = some r := h
 clear h
 replace H := bs H
 obtain ⟨t180, A3, H⟩ := H
 replace H := bs H
 obtain ⟨t181, A4, H⟩ := H
 by_cases c5 : t180 > 0
 ·rw [if_pos c5] at H
  have c5b0 : decide (0 < t180) = true := decide_eq_true c5
  clear c5
  by_cases c6 : t181 < 0
  ·rw [if_pos c6] at H
   have c6b0 := decide_eq_true c6
   clear c6
   obtain rfl := Option.some.inj H
   go_enter Tryd.func42, Tryd.ntmps42
   try go_wp2_with (first | ((with_reducible refine gate_dst (N := 2) rfl ?_); refine box_event rfl (N := 2) rfl (cs := #[.string a0_0, .int .i64 a0_1, .string a0_2, .int .i64 a0_3, .bool a0_4]) (t := 70) gz ?_; intro gb178 hg w7 hbox hb; have GW178 := gN bz hg; have GE178 := gN bz hg; have BK178 := Aside0.mk hbox; replace HB := bN bz hb; clear hb hbox hg) | ((with_reducible refine gate_dst (N := 3) rfl ?_); refine box_event rfl (N := 3) rfl (cs := #[.string a1_0, .int .i64 a1_1]) (t := 28) gz ?_; intro gb179 hg w8 hbox hb; have GW179 := gN bz hg; have GE179 := gN bz hg; have NB178_179 := lN (g := gb178) (cs := #[.string a0_0, .int .i64 a0_1, .string a0_2, .int .i64 a0_3, .bool a0_4]) hg bk; have NB179_178 := rN (g := gb178) (cs := #[.string a0_0, .int .i64 a0_1, .string a0_2, .int .i64 a0_3, .bool a0_4]) hg bk; replace BK178 := kN (g := gb178) (cs := #[.string a0_0, .int .i64 a0_1, .string a0_2, .int .i64 a0_3, .bool a0_4]) hb bk; have BK179 := Aside0.mk hbox; replace HB := bN bz hb; clear hb hbox hg))
   replace BK178 := Aside0.mk (blk_drew BK178.out)
   replace BK179 := Aside0.mk (blk_drew BK179.out)
   replace HB := Aside0.mk (below_drew1 HB.out)
   refine start_ (n := 10) (S := fun w' => w'.cell? ⟨gb179, 0, none⟩ = some (.string a1_0) ∧ w'.cell? ⟨gb179, 1, none⟩ = some (.int .i64 a1_1) ∧ w'.cell? ⟨gb178, 0, none⟩ = some (.string a0_0) ∧ w'.cell? ⟨gb178, 1, none⟩ = some (.int .i64 a0_1) ∧ w'.cell? ⟨gb178, 2, none⟩ = some (.string a0_2) ∧ w'.cell? ⟨gb178, 3, none⟩ = some (.int .i64 a0_3) ∧ w'.cell? ⟨gb178, 4, none⟩ = some (.bool a0_4)) (ds := []) #[false, false, false, false, false, false, false, false, false, false] (by kernel_rfl) rfl rfl ⟨(blk_cell BK179.out 0).trans rfl, (blk_cell BK179.out 1).trans rfl, (blk_cell BK178.out 0).trans rfl, (blk_cell BK178.out 1).trans rfl, (blk_cell BK178.out 2).trans rfl, (blk_cell BK178.out 3).trans rfl, (blk_cell BK178.out 4).trans rfl⟩ (fun hHeld => ?_); refine with_tabW short_span_in.tab1 short_span_in.bits1 (fun HT_ HW_ => ?_)
   generalize w8.drew = w9 at BK178 BK179 HB hHeld ⊢
   refine pure_ (i := 1) (N := some 8) (v := ?_) (a' := ?_) #[false, true, false, false, false, false, false, false, false, false] rfl rfl (any_of HT_.out (by kernel_rfl)) (fun _ _ _ h => h) (Or.inl ⟨by rfl, ?_⟩) ?_ ?_
   rotate_left
   ·intro w'
    go_simp
    with_reducible rfl
   rotate_left
   ·simp only [Act.put, List.setIfInBounds_toArray, List.set_cons_zero, List.set_cons_succ, i64_w, i32_w]
    rfl
   refine pure_ (i := 5) (N := some 12) (v := ?_) (a' := ?_) #[false, true, false, false, false, true, false, false, false, false] rfl rfl (any_of HT_.out (by kernel_rfl)) (fun _ _ _ h => h) (Or.inl ⟨by rfl, ?_⟩) ?_ ?_
   rotate_left
   ·intro w'
    go_simp
    with_reducible rfl
   rotate_left
   ·simp only [Act.put, List.setIfInBounds_toArray, List.set_cons_zero, List.set_cons_succ, i64_w, i32_w]
    rfl
   refine take_ (i := 0) (N := some 7) (v := ?_) (a' := ?_) #[true, true, false, false, false, true, false, false, false, false] rfl rfl (take_ofW HT_.out HW_.out (by kernel_rfl)) (fun _ _ _ h => h) (Or.inl ⟨by rfl, ?_⟩) hHeld ?_ ?_
   rotate_left
   ·rintro w' ⟨s0, s1, s2, s3, s4, s5, s6⟩
    go_simp
    with_reducible rfl
   rotate_left
   ·simp only [Act.put, List.setIfInBounds_toArray, List.set_cons_zero, List.set_cons_succ, i64_w, i32_w]
    rfl
   refine take_ (i := 2) (N := some 9) (v := ?_) (a' := ?_) #[true, true, true, false, false, true, false, false, false, false] rfl rfl (take_ofW HT_.out HW_.out (by kernel_rfl)) (fun _ _ _ h => h) (Or.inl ⟨by rfl, ?_⟩) hHeld ?_ ?_
   rotate_left
   ·rintro w' ⟨s0, s1, s2, s3, s4, s5, s6⟩
    go_simp
    with_reducible rfl
   rotate_left
   ·simp only [Act.put, List.setIfInBounds_toArray, List.set_cons_zero, List.set_cons_succ, i64_w, i32_w]
    rfl
   refine take_ (i := 4) (N := some 11) (v := ?_) (a' := ?_) #[true, true, true, false, true, true, false, false, false, false] rfl rfl (take_ofW HT_.out HW_.out (by kernel_rfl)) (fun _ _ _ h => h) (Or.inl ⟨by rfl, ?_⟩) hHeld ?_ ?_
   rotate_left
   ·rintro w' ⟨s0, s1, s2, s3, s4, s5, s6⟩
    go_simp
    with_reducible rfl
   rotate_left
   ·simp only [Act.put, List.setIfInBounds_toArray, List.set_cons_zero, List.set_cons_succ, i64_w, i32_w]
    rfl
   refine take_ (i := 6) (N := some 13) (v := ?_) (a' := ?_) #[true, true, true, false, true, true, true, false, false, false] rfl rfl (take_ofW HT_.out HW_.out (by kernel_rfl)) (fun _ _ _ h => h) (Or.inl ⟨by rfl, ?_⟩) hHeld ?_ ?_
   rotate_left
   ·rintro w' ⟨s0, s1, s2, s3, s4, s5, s6⟩
    go_simp
    with_reducible rfl
   rotate_left
   ·simp only [Act.put, List.setIfInBounds_toArray, List.set_cons_zero, List.set_cons_succ, i64_w, i32_w]
    rfl
   refine one_ (i := 3) (N := some 10) #[true, true, true, true, true, true, true, false, false, false] rfl rfl (one_of HT_.out (by kernel_rfl)) (by decide) (fun K hK => ?_)
   refine goes_ Tryd.func34 (by kernel_rfl) rfl #[.agg #[.string a1_0, .int .i64 a1_1], .agg #[.string a0_0, .int .i64 a0_1]] (by rfl) rfl rfl lz ?_
   with_reducible refine (short_cmp.calls k a1_0 a1_1 a0_0 a0_1 t180 _ A3.out).mono ?_
   rintro e w10 ⟨rfl, hb⟩
   refine ⟨_, rfl, ?_⟩
   replace BK178 := Aside0.mk (blk_below (g := gb178) (o := .cells #[.string a0_0, .int .i64 a0_1, .string a0_2, .int .i64 a0_3, .bool a0_4] 70 (0, 0)) bk hb)
   replace BK179 := Aside0.mk (blk_below (g := gb179) (o := .cells #[.string a1_0, .int .i64 a1_1] 28 (0, 0)) bk hb)
   replace HB := Aside0.mk (below_step bz hb)
   (try clear hb)
   (try clear hb2)
   (try clear hk)
   (try clear hi)
   refine hK.out _ _ ⟨(blk_cell BK179.out 0).trans rfl, (blk_cell BK179.out 1).trans rfl, (blk_cell BK178.out 0).trans rfl, (blk_cell BK178.out 1).trans rfl, (blk_cell BK178.out 2).trans rfl, (blk_cell BK178.out 3).trans rfl, (blk_cell BK178.out 4).trans rfl⟩ (fun hHeld => ?_)
   clear hK K
   refine norm_ (a' := ?_) ?_ ?_
   rotate_left
   ·show Act.put _ (some 10) _ = _
    simp only [Act.put, List.setIfInBounds_toArray, List.set_cons_zero, List.set_cons_succ, i64_w, i32_w]
    rfl
   refine one_ (i := 7) (N := some 14) #[true, true, true, true, true, true, true, true, false, false] rfl rfl (one_of HT_.out (by kernel_rfl)) (by decide) (fun K hK => ?_)
   refine goes_ Tryd.func34 (by kernel_rfl) rfl #[.agg #[.string a1_0, .int .i64 a1_1], .agg #[.string a0_2, .int .i64 a0_3]] (by rfl) rfl rfl lz ?_
   with_reducible refine (short_cmp.calls k a1_0 a1_1 a0_2 a0_3 t181 _ A4.out).mono ?_
   rintro e w11 ⟨rfl, hb⟩
   refine ⟨_, rfl, ?_⟩
   replace BK178 := Aside0.mk (blk_below (g := gb178) (o := .cells #[.string a0_0, .int .i64 a0_1, .string a0_2, .int .i64 a0_3, .bool a0_4] 70 (0, 0)) bk hb)
   replace BK179 := Aside0.mk (blk_below (g := gb179) (o := .cells #[.string a1_0, .int .i64 a1_1] 28 (0, 0)) bk hb)
   replace HB := Aside0.mk (below_step bz hb)
   (try clear hb)
   (try clear hb2)
   (try clear hk)
   (try clear hi)
   refine hK.out _ _ ⟨(blk_cell BK179.out 0).trans rfl, (blk_cell BK179.out 1).trans rfl, (blk_cell BK178.out 0).trans rfl, (blk_cell BK178.out 1).trans rfl, (blk_cell BK178.out 2).trans rfl, (blk_cell BK178.out 3).trans rfl, (blk_cell BK178.out 4).trans rfl⟩ (fun hHeld => ?_)
   clear hK K
   refine norm_ (a' := ?_) ?_ ?_
   rotate_left
   ·show Act.put _ (some 14) _ = _
    simp only [Act.put, List.setIfInBounds_toArray, List.set_cons_zero, List.set_cons_succ, i64_w, i32_w]
    rfl
   refine pure_ (i := 8) (N := some 5) (v := ?_) (a' := ?_) #[true, true, true, true, true, true, true, true, true, false] rfl rfl (any_of HT_.out (by kernel_rfl)) (fun _ _ _ h => h) (Or.inl ⟨by rfl, ?_⟩) ?_ ?_
   rotate_left
   ·intro w'
    go_simp
    with_reducible rfl
   rotate_left
   ·simp only [Act.put, List.setIfInBounds_toArray, List.set_cons_zero, List.set_cons_succ, i64_w, i32_w]
    rfl
   refine pure_ (i := 9) (N := some 6) (v := ?_) (a' := ?_) #[true, true, true, true, true, true, true, true, true, true] rfl rfl (any_of HT_.out (by kernel_rfl)) (fun _ _ _ h => h) (Or.inl ⟨by rfl, ?_⟩) ?_ ?_
   rotate_left
   ·intro w'
    go_simp
    with_reducible rfl
   rotate_left
   ·simp only [Act.put, List.setIfInBounds_toArray, List.set_cons_zero, List.set_cons_succ, i64_w, i32_w]
    rfl
   refine done_ (done_of HT_.out (by kernel_rfl)) ?_
   try go_wp2
   go_ret
   exact ⟨ez, bz⟩
  ·rw [if_neg c6] at H
   have c6b0 := decide_eq_false c6
   clear c6
   by_cases c12 : a0_4 = true
   ·subst c12
    replace H := hT H
    by_cases c13 : t180 ≥ 0
    ·rw [if_pos c13] at H
     have c13b0 : decide (0 ≤ t180) = true := decide_eq_true c13
     clear c13
     obtain rfl := Option.some.inj H
     go_enter Tryd.func42, Tryd.ntmps42
     try go_wp2_with (first | ((with_reducible refine gate_dst (N := 2) rfl ?_); refine box_event rfl (N := 2) rfl (cs := #[.string a0_0, .int .i64 a0_1, .string a0_2, .int .i64 a0_3, .bool true]) (t := 70) gz ?_; intro gb178 hg w14 hbox hb; have GW178 := gN bz hg; have GE178 := gN bz hg; have BK178 := Aside0.mk hbox; replace HB := bN bz hb; clear hb hbox hg) | ((with_reducible refine gate_dst (N := 3) rfl ?_); refine box_event rfl (N := 3) rfl (cs := #[.string a1_0, .int .i64 a1_1]) (t := 28) gz ?_; intro gb179 hg w15 hbox hb; have GW179 := gN bz hg; have GE179 := gN bz hg; have NB178_179 := lN (g := gb178) (cs := #[.string a0_0, .int .i64 a0_1, .string a0_2, .int .i64 a0_3, .bool true]) hg bk; have NB179_178 := rN (g := gb178) (cs := #[.string a0_0, .int .i64 a0_1, .string a0_2, .int .i64 a0_3, .bool true]) hg bk; replace BK178 := kN (g := gb178) (cs := #[.string a0_0, .int .i64 a0_1, .string a0_2, .int .i64 a0_3, .bool true]) hb bk; have BK179 := Aside0.mk hbox; replace HB := bN bz hb; clear hb hbox hg))
     replace BK178 := Aside0.mk (blk_drew BK178.out)
     replace BK179 := Aside0.mk (blk_drew BK179.out)
     replace HB := Aside0.mk (below_drew1 HB.out)
     refine start_ (n := 10) (S := fun w' => w'.cell? ⟨gb179, 0, none⟩ = some (.string a1_0) ∧ w'.cell? ⟨gb179, 1, none⟩ = some (.int .i64 a1_1) ∧ w'.cell? ⟨gb178, 0, none⟩ = some (.string a0_0) ∧ w'.cell? ⟨gb178, 1, none⟩ = some (.int .i64 a0_1) ∧ w'.cell? ⟨gb178, 2, none⟩ = some (.string a0_2) ∧ w'.cell? ⟨gb178, 3, none⟩ = some (.int .i64 a0_3) ∧ w'.cell? ⟨gb178, 4, none⟩ = some (.bool true)) (ds := []) #[false, false, false, false, false, false, false, false, false, false] (by kernel_rfl) rfl rfl ⟨(blk_cell BK179.out 0).trans rfl, (blk_cell BK179.out 1).trans rfl, (blk_cell BK178.out 0).trans rfl, (blk_cell BK178.out 1).trans rfl, (blk_cell BK178.out 2).trans rfl, (blk_cell BK178.out 3).trans rfl, (blk_cell BK178.out 4).trans rfl⟩ (fun hHeld => ?_); refine with_tabW short_span_in.tab1 short_span_in.bits1 (fun HT_ HW_ => ?_)
     generalize w15.drew = w16 at BK178 BK179 HB hHeld ⊢
     refine pure_ (i := 1) (N := some 8) (v := ?_) (a' := ?_) #[false, true, false, false, false, false, false, false, false, false] rfl rfl (any_of HT_.out (by kernel_rfl)) (fun _ _ _ h => h) (Or.inl ⟨by rfl, ?_⟩) ?_ ?_
     rotate_left
     ·intro w'
      go_simp
      with_reducible rfl
     rotate_left
     ·simp only [Act.put, List.setIfInBounds_toArray, List.set_cons_zero, List.set_cons_succ, i64_w, i32_w]
      rfl
     refine pure_ (i := 5) (N := some 12) (v := ?_) (a' := ?_) #[false, true, false, false, false, true, false, false, false, false] rfl rfl (any_of HT_.out (by kernel_rfl)) (fun _ _ _ h => h) (Or.inl ⟨by rfl, ?_⟩) ?_ ?_
     rotate_left
     ·intro w'
      go_simp
      with_reducible rfl
     rotate_left
     ·simp only [Act.put, List.setIfInBounds_toArray, List.set_cons_zero, List.set_cons_succ, i64_w, i32_w]
      rfl
     refine take_ (i := 0) (N := some 7) (v := ?_) (a' := ?_) #[true, true, false, false, false, true, false, false, false, false] rfl rfl (take_ofW HT_.out HW_.out (by kernel_rfl)) (fun _ _ _ h => h) (Or.inl ⟨by rfl, ?_⟩) hHeld ?_ ?_
     rotate_left
     ·rintro w' ⟨s0, s1, s2, s3, s4, s5, s6⟩
      go_simp
      with_reducible rfl
     rotate_left
     ·simp only [Act.put, List.setIfInBounds_toArray, List.set_cons_zero, List.set_cons_succ, i64_w, i32_w]
      rfl
     refine take_ (i := 2) (N := some 9) (v := ?_) (a' := ?_) #[true, true, true, false, false, true, false, false, false, false] rfl rfl (take_ofW HT_.out HW_.out (by kernel_rfl)) (fun _ _ _ h => h) (Or.inl ⟨by rfl, ?_⟩) hHeld ?_ ?_
     rotate_left
     ·rintro w' ⟨s0, s1, s2, s3, s4, s5, s6⟩
      go_simp
      with_reducible rfl
     rotate_left
     ·simp only [Act.put, List.setIfInBounds_toArray, List.set_cons_zero, List.set_cons_succ, i64_w, i32_w]
      rfl
     refine take_ (i := 4) (N := some 11) (v := ?_) (a' := ?_) #[true, true, true, false, true, true, false, false, false, false] rfl rfl (take_ofW HT_.out HW_.out (by kernel_rfl)) (fun _ _ _ h => h) (Or.inl ⟨by rfl, ?_⟩) hHeld ?_ ?_
     rotate_left
     ·rintro w' ⟨s0, s1, s2, s3, s4, s5, s6⟩
      go_simp
      with_reducible rfl
     rotate_left
     ·simp only [Act.put, List.setIfInBounds_toArray, List.set_cons_zero, List.set_cons_succ, i64_w, i32_w]
      rfl
     refine take_ (i := 6) (N := some 13) (v := ?_) (a' := ?_) #[true, true, true, false, true, true, true, false, false, false] rfl rfl (take_ofW HT_.out HW_.out (by kernel_rfl)) (fun _ _ _ h => h) (Or.inl ⟨by rfl, ?_⟩) hHeld ?_ ?_
     rotate_left
     ·rintro w' ⟨s0, s1, s2, s3, s4, s5, s6⟩
      go_simp
      with_reducible rfl
     rotate_left
     ·simp only [Act.put, List.setIfInBounds_toArray, List.set_cons_zero, List.set_cons_succ, i64_w, i32_w]
      rfl
     refine one_ (i := 3) (N := some 10) #[true, true, true, true, true, true, true, false, false, false] rfl rfl (one_of HT_.out (by kernel_rfl)) (by decide) (fun K hK => ?_)
     refine goes_ Tryd.func34 (by kernel_rfl) rfl #[.agg #[.string a1_0, .int .i64 a1_1], .agg #[.string a0_0, .int .i64 a0_1]] (by rfl) rfl rfl lz ?_
     with_reducible refine (short_cmp.calls k a1_0 a1_1 a0_0 a0_1 t180 _ A3.out).mono ?_
     rintro e w17 ⟨rfl, hb⟩
     refine ⟨_, rfl, ?_⟩
     replace BK178 := Aside0.mk (blk_below (g := gb178) (o := .cells #[.string a0_0, .int .i64 a0_1, .string a0_2, .int .i64 a0_3, .bool true] 70 (0, 0)) bk hb)
     replace BK179 := Aside0.mk (blk_below (g := gb179) (o := .cells #[.string a1_0, .int .i64 a1_1] 28 (0, 0)) bk hb)
     replace HB := Aside0.mk (below_step bz hb)
     (try clear hb)
     (try clear hb2)
     (try clear hk)
     (try clear hi)
     refine hK.out _ _ ⟨(blk_cell BK179.out 0).trans rfl, (blk_cell BK179.out 1).trans rfl, (blk_cell BK178.out 0).trans rfl, (blk_cell BK178.out 1).trans rfl, (blk_cell BK178.out 2).trans rfl, (blk_cell BK178.out 3).trans rfl, (blk_cell BK178.out 4).trans rfl⟩ (fun hHeld => ?_)
     clear hK K
     refine norm_ (a' := ?_) ?_ ?_
     rotate_left
     ·show Act.put _ (some 10) _ = _
      simp only [Act.put, List.setIfInBounds_toArray, List.set_cons_zero, List.set_cons_succ, i64_w, i32_w]
      rfl
     refine one_ (i := 7) (N := some 14) #[true, true, true, true, true, true, true, true, false, false] rfl rfl (one_of HT_.out (by kernel_rfl)) (by decide) (fun K hK => ?_)
     refine goes_ Tryd.func34 (by kernel_rfl) rfl #[.agg #[.string a1_0, .int .i64 a1_1], .agg #[.string a0_2, .int .i64 a0_3]] (by rfl) rfl rfl lz ?_
     with_reducible refine (short_cmp.calls k a1_0 a1_1 a0_2 a0_3 t181 _ A4.out).mono ?_
     rintro e w18 ⟨rfl, hb⟩
     refine ⟨_, rfl, ?_⟩
     replace BK178 := Aside0.mk (blk_below (g := gb178) (o := .cells #[.string a0_0, .int .i64 a0_1, .string a0_2, .int .i64 a0_3, .bool true] 70 (0, 0)) bk hb)
     replace BK179 := Aside0.mk (blk_below (g := gb179) (o := .cells #[.string a1_0, .int .i64 a1_1] 28 (0, 0)) bk hb)
     replace HB := Aside0.mk (below_step bz hb)
     (try clear hb)
     (try clear hb2)
     (try clear hk)
     (try clear hi)
     refine hK.out _ _ ⟨(blk_cell BK179.out 0).trans rfl, (blk_cell BK179.out 1).trans rfl, (blk_cell BK178.out 0).trans rfl, (blk_cell BK178.out 1).trans rfl, (blk_cell BK178.out 2).trans rfl, (blk_cell BK178.out 3).trans rfl, (blk_cell BK178.out 4).trans rfl⟩ (fun hHeld => ?_)
     clear hK K
     refine norm_ (a' := ?_) ?_ ?_
     rotate_left
     ·show Act.put _ (some 14) _ = _
      simp only [Act.put, List.setIfInBounds_toArray, List.set_cons_zero, List.set_cons_succ, i64_w, i32_w]
      rfl
     refine pure_ (i := 8) (N := some 5) (v := ?_) (a' := ?_) #[true, true, true, true, true, true, true, true, true, false] rfl rfl (any_of HT_.out (by kernel_rfl)) (fun _ _ _ h => h) (Or.inl ⟨by rfl, ?_⟩) ?_ ?_
     rotate_left
     ·intro w'
      go_simp
      with_reducible rfl
     rotate_left
     ·simp only [Act.put, List.setIfInBounds_toArray, List.set_cons_zero, List.set_cons_succ, i64_w, i32_w]
      rfl
     refine pure_ (i := 9) (N := some 6) (v := ?_) (a' := ?_) #[true, true, true, true, true, true, true, true, true, true] rfl rfl (any_of HT_.out (by kernel_rfl)) (fun _ _ _ h => h) (Or.inl ⟨by rfl, ?_⟩) ?_ ?_
     rotate_left
     ·intro w'
      go_simp
      with_reducible rfl
     rotate_left
     ·simp only [Act.put, List.setIfInBounds_toArray, List.set_cons_zero, List.set_cons_succ, i64_w, i32_w]
      rfl
     refine done_ (done_of HT_.out (by kernel_rfl)) ?_
     have hnb19 := NB178_179.out
     have hnc19 := NB179_178.out
     obtain ⟨hcz20_0, hcz20_1, hcz20_2, hcz20_3, hcz20_4, hfz20_0, hfz20_1, hfz20_2, hfz20_3, hfz20_4⟩ := cz5 (W := w18) BK178
     try go_wp2
     go_ret
     exact ⟨ez, bz⟩
    ·rw [if_neg c13] at H
     have c13b0 : decide (0 ≤ t180) = false := decide_eq_false c13
     clear c13
     obtain rfl := Option.some.inj H
     go_enter Tryd.func42, Tryd.ntmps42
     try go_wp2_with (first | ((with_reducible refine gate_dst (N := 2) rfl ?_); refine box_event rfl (N := 2) rfl (cs := #[.string a0_0, .int .i64 a0_1, .string a0_2, .int .i64 a0_3, .bool true]) (t := 70) gz ?_; intro gb178 hg w21 hbox hb; have GW178 := gN bz hg; have GE178 := gN bz hg; have BK178 := Aside0.mk hbox; replace HB := bN bz hb; clear hb hbox hg) | ((with_reducible refine gate_dst (N := 3) rfl ?_); refine box_event rfl (N := 3) rfl (cs := #[.string a1_0, .int .i64 a1_1]) (t := 28) gz ?_; intro gb179 hg w22 hbox hb; have GW179 := gN bz hg; have GE179 := gN bz hg; have NB178_179 := lN (g := gb178) (cs := #[.string a0_0, .int .i64 a0_1, .string a0_2, .int .i64 a0_3, .bool true]) hg bk; have NB179_178 := rN (g := gb178) (cs := #[.string a0_0, .int .i64 a0_1, .string a0_2, .int .i64 a0_3, .bool true]) hg bk; replace BK178 := kN (g := gb178) (cs := #[.string a0_0, .int .i64 a0_1, .string a0_2, .int .i64 a0_3, .bool true]) hb bk; have BK179 := Aside0.mk hbox; replace HB := bN bz hb; clear hb hbox hg))
     replace BK178 := Aside0.mk (blk_drew BK178.out)
     replace BK179 := Aside0.mk (blk_drew BK179.out)
     replace HB := Aside0.mk (below_drew1 HB.out)
     refine start_ (n := 10) (S := fun w' => w'.cell? ⟨gb179, 0, none⟩ = some (.string a1_0) ∧ w'.cell? ⟨gb179, 1, none⟩ = some (.int .i64 a1_1) ∧ w'.cell? ⟨gb178, 0, none⟩ = some (.string a0_0) ∧ w'.cell? ⟨gb178, 1, none⟩ = some (.int .i64 a0_1) ∧ w'.cell? ⟨gb178, 2, none⟩ = some (.string a0_2) ∧ w'.cell? ⟨gb178, 3, none⟩ = some (.int .i64 a0_3) ∧ w'.cell? ⟨gb178, 4, none⟩ = some (.bool true)) (ds := []) #[false, false, false, false, false, false, false, false, false, false] (by kernel_rfl) rfl rfl ⟨(blk_cell BK179.out 0).trans rfl, (blk_cell BK179.out 1).trans rfl, (blk_cell BK178.out 0).trans rfl, (blk_cell BK178.out 1).trans rfl, (blk_cell BK178.out 2).trans rfl, (blk_cell BK178.out 3).trans rfl, (blk_cell BK178.out 4).trans rfl⟩ (fun hHeld => ?_); refine with_tabW short_span_in.tab1 short_span_in.bits1 (fun HT_ HW_ => ?_)
     generalize w22.drew = w23 at BK178 BK179 HB hHeld ⊢
     refine pure_ (i := 1) (N := some 8) (v := ?_) (a' := ?_) #[false, true, false, false, false, false, false, false, false, false] rfl rfl (any_of HT_.out (by kernel_rfl)) (fun _ _ _ h => h) (Or.inl ⟨by rfl, ?_⟩) ?_ ?_
     rotate_left
     ·intro w'
      go_simp
      with_reducible rfl
     rotate_left
     ·simp only [Act.put, List.setIfInBounds_toArray, List.set_cons_zero, List.set_cons_succ, i64_w, i32_w]
      rfl
     refine pure_ (i := 5) (N := some 12) (v := ?_) (a' := ?_) #[false, true, false, false, false, true, false, false, false, false] rfl rfl (any_of HT_.out (by kernel_rfl)) (fun _ _ _ h => h) (Or.inl ⟨by rfl, ?_⟩) ?_ ?_
     rotate_left
     ·intro w'
      go_simp
      with_reducible rfl
     rotate_left
     ·simp only [Act.put, List.setIfInBounds_toArray, List.set_cons_zero, List.set_cons_succ, i64_w, i32_w]
      rfl
     refine take_ (i := 0) (N := some 7) (v := ?_) (a' := ?_) #[true, true, false, false, false, true, false, false, false, false] rfl rfl (take_ofW HT_.out HW_.out (by kernel_rfl)) (fun _ _ _ h => h) (Or.inl ⟨by rfl, ?_⟩) hHeld ?_ ?_
     rotate_left
     ·rintro w' ⟨s0, s1, s2, s3, s4, s5, s6⟩
      go_simp
      with_reducible rfl
     rotate_left
     ·simp only [Act.put, List.setIfInBounds_toArray, List.set_cons_zero, List.set_cons_succ, i64_w, i32_w]
      rfl
     refine take_ (i := 2) (N := some 9) (v := ?_) (a' := ?_) #[true, true, true, false, false, true, false, false, false, false] rfl rfl (take_ofW HT_.out HW_.out (by kernel_rfl)) (fun _ _ _ h => h) (Or.inl ⟨by rfl, ?_⟩) hHeld ?_ ?_
     rotate_left
     ·rintro w' ⟨s0, s1, s2, s3, s4, s5, s6⟩
      go_simp
      with_reducible rfl
     rotate_left
     ·simp only [Act.put, List.setIfInBounds_toArray, List.set_cons_zero, List.set_cons_succ, i64_w, i32_w]
      rfl
     refine take_ (i := 4) (N := some 11) (v := ?_) (a' := ?_) #[true, true, true, false, true, true, false, false, false, false] rfl rfl (take_ofW HT_.out HW_.out (by kernel_rfl)) (fun _ _ _ h => h) (Or.inl ⟨by rfl, ?_⟩) hHeld ?_ ?_
     rotate_left
     ·rintro w' ⟨s0, s1, s2, s3, s4, s5, s6⟩
      go_simp
      with_reducible rfl
     rotate_left
     ·simp only [Act.put, List.setIfInBounds_toArray, List.set_cons_zero, List.set_cons_succ, i64_w, i32_w]
      rfl
     refine take_ (i := 6) (N := some 13) (v := ?_) (a' := ?_) #[true, true, true, false, true, true, true, false, false, false] rfl rfl (take_ofW HT_.out HW_.out (by kernel_rfl)) (fun _ _ _ h => h) (Or.inl ⟨by rfl, ?_⟩) hHeld ?_ ?_
     rotate_left
     ·rintro w' ⟨s0, s1, s2, s3, s4, s5, s6⟩
      go_simp
      with_reducible rfl
     rotate_left
     ·simp only [Act.put, List.setIfInBounds_toArray, List.set_cons_zero, List.set_cons_succ, i64_w, i32_w]
      rfl
     refine one_ (i := 3) (N := some 10) #[true, true, true, true, true, true, true, false, false, false] rfl rfl (one_of HT_.out (by kernel_rfl)) (by decide) (fun K hK => ?_)
     refine goes_ Tryd.func34 (by kernel_rfl) rfl #[.agg #[.string a1_0, .int .i64 a1_1], .agg #[.string a0_0, .int .i64 a0_1]] (by rfl) rfl rfl lz ?_
     with_reducible refine (short_cmp.calls k a1_0 a1_1 a0_0 a0_1 t180 _ A3.out).mono ?_
     rintro e w24 ⟨rfl, hb⟩
     refine ⟨_, rfl, ?_⟩
     replace BK178 := Aside0.mk (blk_below (g := gb178) (o := .cells #[.string a0_0, .int .i64 a0_1, .string a0_2, .int .i64 a0_3, .bool true] 70 (0, 0)) bk hb)
     replace BK179 := Aside0.mk (blk_below (g := gb179) (o := .cells #[.string a1_0, .int .i64 a1_1] 28 (0, 0)) bk hb)
     replace HB := Aside0.mk (below_step bz hb)
     (try clear hb)
     (try clear hb2)
     (try clear hk)
     (try clear hi)
     refine hK.out _ _ ⟨(blk_cell BK179.out 0).trans rfl, (blk_cell BK179.out 1).trans rfl, (blk_cell BK178.out 0).trans rfl, (blk_cell BK178.out 1).trans rfl, (blk_cell BK178.out 2).trans rfl, (blk_cell BK178.out 3).trans rfl, (blk_cell BK178.out 4).trans rfl⟩ (fun hHeld => ?_)
     clear hK K
     refine norm_ (a' := ?_) ?_ ?_
     rotate_left
     ·show Act.put _ (some 10) _ = _
      simp only [Act.put, List.setIfInBounds_toArray, List.set_cons_zero, List.set_cons_succ, i64_w, i32_w]
      rfl
     refine one_ (i := 7) (N := some 14) #[true, true, true, true, true, true, true, true, false, false] rfl rfl (one_of HT_.out (by kernel_rfl)) (by decide) (fun K hK => ?_)
     refine goes_ Tryd.func34 (by kernel_rfl) rfl #[.agg #[.string a1_0, .int .i64 a1_1], .agg #[.string a0_2, .int .i64 a0_3]] (by rfl) rfl rfl lz ?_
     with_reducible refine (short_cmp.calls k a1_0 a1_1 a0_2 a0_3 t181 _ A4.out).mono ?_
     rintro e w25 ⟨rfl, hb⟩
     refine ⟨_, rfl, ?_⟩
     replace BK178 := Aside0.mk (blk_below (g := gb178) (o := .cells #[.string a0_0, .int .i64 a0_1, .string a0_2, .int .i64 a0_3, .bool true] 70 (0, 0)) bk hb)
     replace BK179 := Aside0.mk (blk_below (g := gb179) (o := .cells #[.string a1_0, .int .i64 a1_1] 28 (0, 0)) bk hb)
     replace HB := Aside0.mk (below_step bz hb)
     (try clear hb)
     (try clear hb2)
     (try clear hk)
     (try clear hi)
     refine hK.out _ _ ⟨(blk_cell BK179.out 0).trans rfl, (blk_cell BK179.out 1).trans rfl, (blk_cell BK178.out 0).trans rfl, (blk_cell BK178.out 1).trans rfl, (blk_cell BK178.out 2).trans rfl, (blk_cell BK178.out 3).trans rfl, (blk_cell BK178.out 4).trans rfl⟩ (fun hHeld => ?_)
     clear hK K
     refine norm_ (a' := ?_) ?_ ?_
     rotate_left
     ·show Act.put _ (some 14) _ = _
      simp only [Act.put, List.setIfInBounds_toArray, List.set_cons_zero, List.set_cons_succ, i64_w, i32_w]
      rfl
     refine pure_ (i := 8) (N := some 5) (v := ?_) (a' := ?_) #[true, true, true, true, true, true, true, true, true, false] rfl rfl (any_of HT_.out (by kernel_rfl)) (fun _ _ _ h => h) (Or.inl ⟨by rfl, ?_⟩) ?_ ?_
     rotate_left
     ·intro w'
      go_simp
      with_reducible rfl
     rotate_left
     ·simp only [Act.put, List.setIfInBounds_toArray, List.set_cons_zero, List.set_cons_succ, i64_w, i32_w]
      rfl
     refine pure_ (i := 9) (N := some 6) (v := ?_) (a' := ?_) #[true, true, true, true, true, true, true, true, true, true] rfl rfl (any_of HT_.out (by kernel_rfl)) (fun _ _ _ h => h) (Or.inl ⟨by rfl, ?_⟩) ?_ ?_
     rotate_left
     ·intro w'
      go_simp
      with_reducible rfl
     rotate_left
     ·simp only [Act.put, List.setIfInBounds_toArray, List.set_cons_zero, List.set_cons_succ, i64_w, i32_w]
      rfl
     refine done_ (done_of HT_.out (by kernel_rfl)) ?_
     have hnb26 := NB178_179.out
     have hnc26 := NB179_178.out
     obtain ⟨hcz27_0, hcz27_1, hcz27_2, hcz27_3, hcz27_4, hfz27_0, hfz27_1, hfz27_2, hfz27_3, hfz27_4⟩ := cz5 (W := w25) BK178
     try go_wp2
     go_ret
     exact ⟨ez, bz⟩
   ·replace c12 := Bool.eq_false_iff.mpr c12
    subst c12
    replace H := hF H
    obtain rfl := Option.some.inj H
    go_enter Tryd.func42, Tryd.ntmps42
    try go_wp2_with (first | ((with_reducible refine gate_dst (N := 2) rfl ?_); refine box_event rfl (N := 2) rfl (cs := #[.string a0_0, .int .i64 a0_1, .string a0_2, .int .i64 a0_3, .bool false]) (t := 70) gz ?_; intro gb178 hg w28 hbox hb; have GW178 := gN bz hg; have GE178 := gN bz hg; have BK178 := Aside0.mk hbox; replace HB := bN bz hb; clear hb hbox hg) | ((with_reducible refine gate_dst (N := 3) rfl ?_); refine box_event rfl (N := 3) rfl (cs := #[.string a1_0, .int .i64 a1_1]) (t := 28) gz ?_; intro gb179 hg w29 hbox hb; have GW179 := gN bz hg; have GE179 := gN bz hg; have NB178_179 := lN (g := gb178) (cs := #[.string a0_0, .int .i64 a0_1, .string a0_2, .int .i64 a0_3, .bool false]) hg bk; have NB179_178 := rN (g := gb178) (cs := #[.string a0_0, .int .i64 a0_1, .string a0_2, .int .i64 a0_3, .bool false]) hg bk; replace BK178 := kN (g := gb178) (cs := #[.string a0_0, .int .i64 a0_1, .string a0_2, .int .i64 a0_3, .bool false]) hb bk; have BK179 := Aside0.mk hbox; replace HB := bN bz hb; clear hb hbox hg))
    replace BK178 := Aside0.mk (blk_drew BK178.out)
    replace BK179 := Aside0.mk (blk_drew BK179.out)
    replace HB := Aside0.mk (below_drew1 HB.out)
    refine start_ (n := 10) (S := fun w' => w'.cell? ⟨gb179, 0, none⟩ = some (.string a1_0) ∧ w'.cell? ⟨gb179, 1, none⟩ = some (.int .i64 a1_1) ∧ w'.cell? ⟨gb178, 0, none⟩ = some (.string a0_0) ∧ w'.cell? ⟨gb178, 1, none⟩ = some (.int .i64 a0_1) ∧ w'.cell? ⟨gb178, 2, none⟩ = some (.string a0_2) ∧ w'.cell? ⟨gb178, 3, none⟩ = some (.int .i64 a0_3) ∧ w'.cell? ⟨gb178, 4, none⟩ = some (.bool false)) (ds := []) #[false, false, false, false, false, false, false, false, false, false] (by kernel_rfl) rfl rfl ⟨(blk_cell BK179.out 0).trans rfl, (blk_cell BK179.out 1).trans rfl, (blk_cell BK178.out 0).trans rfl, (blk_cell BK178.out 1).trans rfl, (blk_cell BK178.out 2).trans rfl, (blk_cell BK178.out 3).trans rfl, (blk_cell BK178.out 4).trans rfl⟩ (fun hHeld => ?_); refine with_tabW short_span_in.tab1 short_span_in.bits1 (fun HT_ HW_ => ?_)
    generalize w29.drew = w30 at BK178 BK179 HB hHeld ⊢
    refine pure_ (i := 1) (N := some 8) (v := ?_) (a' := ?_) #[false, true, false, false, false, false, false, false, false, false] rfl rfl (any_of HT_.out (by kernel_rfl)) (fun _ _ _ h => h) (Or.inl ⟨by rfl, ?_⟩) ?_ ?_
    rotate_left
    ·intro w'
     go_simp
     with_reducible rfl
    rotate_left
    ·simp only [Act.put, List.setIfInBounds_toArray, List.set_cons_zero, List.set_cons_succ, i64_w, i32_w]
     rfl
    refine pure_ (i := 5) (N := some 12) (v := ?_) (a' := ?_) #[false, true, false, false, false, true, false, false, false, false] rfl rfl (any_of HT_.out (by kernel_rfl)) (fun _ _ _ h => h) (Or.inl ⟨by rfl, ?_⟩) ?_ ?_
    rotate_left
    ·intro w'
     go_simp
     with_reducible rfl
    rotate_left
    ·simp only [Act.put, List.setIfInBounds_toArray, List.set_cons_zero, List.set_cons_succ, i64_w, i32_w]
     rfl
    refine take_ (i := 0) (N := some 7) (v := ?_) (a' := ?_) #[true, true, false, false, false, true, false, false, false, false] rfl rfl (take_ofW HT_.out HW_.out (by kernel_rfl)) (fun _ _ _ h => h) (Or.inl ⟨by rfl, ?_⟩) hHeld ?_ ?_
    rotate_left
    ·rintro w' ⟨s0, s1, s2, s3, s4, s5, s6⟩
     go_simp
     with_reducible rfl
    rotate_left
    ·simp only [Act.put, List.setIfInBounds_toArray, List.set_cons_zero, List.set_cons_succ, i64_w, i32_w]
     rfl
    refine take_ (i := 2) (N := some 9) (v := ?_) (a' := ?_) #[true, true, true, false, false, true, false, false, false, false] rfl rfl (take_ofW HT_.out HW_.out (by kernel_rfl)) (fun _ _ _ h => h) (Or.inl ⟨by rfl, ?_⟩) hHeld ?_ ?_
    rotate_left
    ·rintro w' ⟨s0, s1, s2, s3, s4, s5, s6⟩
     go_simp
     with_reducible rfl
    rotate_left
    ·simp only [Act.put, List.setIfInBounds_toArray, List.set_cons_zero, List.set_cons_succ, i64_w, i32_w]
     rfl
    refine take_ (i := 4) (N := some 11) (v := ?_) (a' := ?_) #[true, true, true, false, true, true, false, false, false, false] rfl rfl (take_ofW HT_.out HW_.out (by kernel_rfl)) (fun _ _ _ h => h) (Or.inl ⟨by rfl, ?_⟩) hHeld ?_ ?_
    rotate_left
    ·rintro w' ⟨s0, s1, s2, s3, s4, s5, s6⟩
     go_simp
     with_reducible rfl
    rotate_left
    ·simp only [Act.put, List.setIfInBounds_toArray, List.set_cons_zero, List.set_cons_succ, i64_w, i32_w]
     rfl
    refine take_ (i := 6) (N := some 13) (v := ?_) (a' := ?_) #[true, true, true, false, true, true, true, false, false, false] rfl rfl (take_ofW HT_.out HW_.out (by kernel_rfl)) (fun _ _ _ h => h) (Or.inl ⟨by rfl, ?_⟩) hHeld ?_ ?_
    rotate_left
    ·rintro w' ⟨s0, s1, s2, s3, s4, s5, s6⟩
     go_simp
     with_reducible rfl
    rotate_left
    ·simp only [Act.put, List.setIfInBounds_toArray, List.set_cons_zero, List.set_cons_succ, i64_w, i32_w]
     rfl
    refine one_ (i := 3) (N := some 10) #[true, true, true, true, true, true, true, false, false, false] rfl rfl (one_of HT_.out (by kernel_rfl)) (by decide) (fun K hK => ?_)
    refine goes_ Tryd.func34 (by kernel_rfl) rfl #[.agg #[.string a1_0, .int .i64 a1_1], .agg #[.string a0_0, .int .i64 a0_1]] (by rfl) rfl rfl lz ?_
    with_reducible refine (short_cmp.calls k a1_0 a1_1 a0_0 a0_1 t180 _ A3.out).mono ?_
    rintro e w31 ⟨rfl, hb⟩
    refine ⟨_, rfl, ?_⟩
    replace BK178 := Aside0.mk (blk_below (g := gb178) (o := .cells #[.string a0_0, .int .i64 a0_1, .string a0_2, .int .i64 a0_3, .bool false] 70 (0, 0)) bk hb)
    replace BK179 := Aside0.mk (blk_below (g := gb179) (o := .cells #[.string a1_0, .int .i64 a1_1] 28 (0, 0)) bk hb)
    replace HB := Aside0.mk (below_step bz hb)
    (try clear hb)
    (try clear hb2)
    (try clear hk)
    (try clear hi)
    refine hK.out _ _ ⟨(blk_cell BK179.out 0).trans rfl, (blk_cell BK179.out 1).trans rfl, (blk_cell BK178.out 0).trans rfl, (blk_cell BK178.out 1).trans rfl, (blk_cell BK178.out 2).trans rfl, (blk_cell BK178.out 3).trans rfl, (blk_cell BK178.out 4).trans rfl⟩ (fun hHeld => ?_)
    clear hK K
    refine norm_ (a' := ?_) ?_ ?_
    rotate_left
    ·show Act.put _ (some 10) _ = _
     simp only [Act.put, List.setIfInBounds_toArray, List.set_cons_zero, List.set_cons_succ, i64_w, i32_w]
     rfl
    refine one_ (i := 7) (N := some 14) #[true, true, true, true, true, true, true, true, false, false] rfl rfl (one_of HT_.out (by kernel_rfl)) (by decide) (fun K hK => ?_)
    refine goes_ Tryd.func34 (by kernel_rfl) rfl #[.agg #[.string a1_0, .int .i64 a1_1], .agg #[.string a0_2, .int .i64 a0_3]] (by rfl) rfl rfl lz ?_
    with_reducible refine (short_cmp.calls k a1_0 a1_1 a0_2 a0_3 t181 _ A4.out).mono ?_
    rintro e w32 ⟨rfl, hb⟩
    refine ⟨_, rfl, ?_⟩
    replace BK178 := Aside0.mk (blk_below (g := gb178) (o := .cells #[.string a0_0, .int .i64 a0_1, .string a0_2, .int .i64 a0_3, .bool false] 70 (0, 0)) bk hb)
    replace BK179 := Aside0.mk (blk_below (g := gb179) (o := .cells #[.string a1_0, .int .i64 a1_1] 28 (0, 0)) bk hb)
    replace HB := Aside0.mk (below_step bz hb)
    (try clear hb)
    (try clear hb2)
    (try clear hk)
    (try clear hi)
    refine hK.out _ _ ⟨(blk_cell BK179.out 0).trans rfl, (blk_cell BK179.out 1).trans rfl, (blk_cell BK178.out 0).trans rfl, (blk_cell BK178.out 1).trans rfl, (blk_cell BK178.out 2).trans rfl, (blk_cell BK178.out 3).trans rfl, (blk_cell BK178.out 4).trans rfl⟩ (fun hHeld => ?_)
    clear hK K
    refine norm_ (a' := ?_) ?_ ?_
    rotate_left
    ·show Act.put _ (some 14) _ = _
     simp only [Act.put, List.setIfInBounds_toArray, List.set_cons_zero, List.set_cons_succ, i64_w, i32_w]
     rfl
    refine pure_ (i := 8) (N := some 5) (v := ?_) (a' := ?_) #[true, true, true, true, true, true, true, true, true, false] rfl rfl (any_of HT_.out (by kernel_rfl)) (fun _ _ _ h => h) (Or.inl ⟨by rfl, ?_⟩) ?_ ?_
    rotate_left
    ·intro w'
     go_simp
     with_reducible rfl
    rotate_left
    ·simp only [Act.put, List.setIfInBounds_toArray, List.set_cons_zero, List.set_cons_succ, i64_w, i32_w]
     rfl
    refine pure_ (i := 9) (N := some 6) (v := ?_) (a' := ?_) #[true, true, true, true, true, true, true, true, true, true] rfl rfl (any_of HT_.out (by kernel_rfl)) (fun _ _ _ h => h) (Or.inl ⟨by rfl, ?_⟩) ?_ ?_
    rotate_left
    ·intro w'
     go_simp
     with_reducible rfl
    rotate_left
    ·simp only [Act.put, List.setIfInBounds_toArray, List.set_cons_zero, List.set_cons_succ, i64_w, i32_w]
     rfl
    refine done_ (done_of HT_.out (by kernel_rfl)) ?_
    have hnb33 := NB178_179.out
    have hnc33 := NB179_178.out
    obtain ⟨hcz34_0, hcz34_1, hcz34_2, hcz34_3, hcz34_4, hfz34_0, hfz34_1, hfz34_2, hfz34_3, hfz34_4⟩ := cz5 (W := w32) BK178
    try go_wp2
    go_ret
    exact ⟨ez, bz⟩
 ·rw [if_neg c5] at H
  have c5b0 : decide (0 < t180) = false := decide_eq_false c5
  clear c5
  by_cases c35 : a0_4 = true
  ·subst c35
   replace H := hT H
   by_cases c36 : t180 ≥ 0
   ·rw [if_pos c36] at H
    have c36b0 : decide (0 ≤ t180) = true := decide_eq_true c36
    clear c36
    obtain rfl := Option.some.inj H
    go_enter Tryd.func42, Tryd.ntmps42
    try go_wp2_with (first | ((with_reducible refine gate_dst (N := 2) rfl ?_); refine box_event rfl (N := 2) rfl (cs := #[.string a0_0, .int .i64 a0_1, .string a0_2, .int .i64 a0_3, .bool true]) (t := 70) gz ?_; intro gb178 hg w37 hbox hb; have GW178 := gN bz hg; have GE178 := gN bz hg; have BK178 := Aside0.mk hbox; replace HB := bN bz hb; clear hb hbox hg) | ((with_reducible refine gate_dst (N := 3) rfl ?_); refine box_event rfl (N := 3) rfl (cs := #[.string a1_0, .int .i64 a1_1]) (t := 28) gz ?_; intro gb179 hg w38 hbox hb; have GW179 := gN bz hg; have GE179 := gN bz hg; have NB178_179 := lN (g := gb178) (cs := #[.string a0_0, .int .i64 a0_1, .string a0_2, .int .i64 a0_3, .bool true]) hg bk; have NB179_178 := rN (g := gb178) (cs := #[.string a0_0, .int .i64 a0_1, .string a0_2, .int .i64 a0_3, .bool true]) hg bk; replace BK178 := kN (g := gb178) (cs := #[.string a0_0, .int .i64 a0_1, .string a0_2, .int .i64 a0_3, .bool true]) hb bk; have BK179 := Aside0.mk hbox; replace HB := bN bz hb; clear hb hbox hg))
    replace BK178 := Aside0.mk (blk_drew BK178.out)
    replace BK179 := Aside0.mk (blk_drew BK179.out)
    replace HB := Aside0.mk (below_drew1 HB.out)
    refine start_ (n := 10) (S := fun w' => w'.cell? ⟨gb179, 0, none⟩ = some (.string a1_0) ∧ w'.cell? ⟨gb179, 1, none⟩ = some (.int .i64 a1_1) ∧ w'.cell? ⟨gb178, 0, none⟩ = some (.string a0_0) ∧ w'.cell? ⟨gb178, 1, none⟩ = some (.int .i64 a0_1) ∧ w'.cell? ⟨gb178, 2, none⟩ = some (.string a0_2) ∧ w'.cell? ⟨gb178, 3, none⟩ = some (.int .i64 a0_3) ∧ w'.cell? ⟨gb178, 4, none⟩ = some (.bool true)) (ds := []) #[false, false, false, false, false, false, false, false, false, false] (by kernel_rfl) rfl rfl ⟨(blk_cell BK179.out 0).trans rfl, (blk_cell BK179.out 1).trans rfl, (blk_cell BK178.out 0).trans rfl, (blk_cell BK178.out 1).trans rfl, (blk_cell BK178.out 2).trans rfl, (blk_cell BK178.out 3).trans rfl, (blk_cell BK178.out 4).trans rfl⟩ (fun hHeld => ?_); refine with_tabW short_span_in.tab1 short_span_in.bits1 (fun HT_ HW_ => ?_)
    generalize w38.drew = w39 at BK178 BK179 HB hHeld ⊢
    refine pure_ (i := 1) (N := some 8) (v := ?_) (a' := ?_) #[false, true, false, false, false, false, false, false, false, false] rfl rfl (any_of HT_.out (by kernel_rfl)) (fun _ _ _ h => h) (Or.inl ⟨by rfl, ?_⟩) ?_ ?_
    rotate_left
    ·intro w'
     go_simp
     with_reducible rfl
    rotate_left
    ·simp only [Act.put, List.setIfInBounds_toArray, List.set_cons_zero, List.set_cons_succ, i64_w, i32_w]
     rfl
    refine pure_ (i := 5) (N := some 12) (v := ?_) (a' := ?_) #[false, true, false, false, false, true, false, false, false, false] rfl rfl (any_of HT_.out (by kernel_rfl)) (fun _ _ _ h => h) (Or.inl ⟨by rfl, ?_⟩) ?_ ?_
    rotate_left
    ·intro w'
     go_simp
     with_reducible rfl
    rotate_left
    ·simp only [Act.put, List.setIfInBounds_toArray, List.set_cons_zero, List.set_cons_succ, i64_w, i32_w]
     rfl
    refine take_ (i := 0) (N := some 7) (v := ?_) (a' := ?_) #[true, true, false, false, false, true, false, false, false, false] rfl rfl (take_ofW HT_.out HW_.out (by kernel_rfl)) (fun _ _ _ h => h) (Or.inl ⟨by rfl, ?_⟩) hHeld ?_ ?_
    rotate_left
    ·rintro w' ⟨s0, s1, s2, s3, s4, s5, s6⟩
     go_simp
     with_reducible rfl
    rotate_left
    ·simp only [Act.put, List.setIfInBounds_toArray, List.set_cons_zero, List.set_cons_succ, i64_w, i32_w]
     rfl
    refine take_ (i := 2) (N := some 9) (v := ?_) (a' := ?_) #[true, true, true, false, false, true, false, false, false, false] rfl rfl (take_ofW HT_.out HW_.out (by kernel_rfl)) (fun _ _ _ h => h) (Or.inl ⟨by rfl, ?_⟩) hHeld ?_ ?_
    rotate_left
    ·rintro w' ⟨s0, s1, s2, s3, s4, s5, s6⟩
     go_simp
     with_reducible rfl
    rotate_left
    ·simp only [Act.put, List.setIfInBounds_toArray, List.set_cons_zero, List.set_cons_succ, i64_w, i32_w]
     rfl
    refine take_ (i := 4) (N := some 11) (v := ?_) (a' := ?_) #[true, true, true, false, true, true, false, false, false, false] rfl rfl (take_ofW HT_.out HW_.out (by kernel_rfl)) (fun _ _ _ h => h) (Or.inl ⟨by rfl, ?_⟩) hHeld ?_ ?_
    rotate_left
    ·rintro w' ⟨s0, s1, s2, s3, s4, s5, s6⟩
     go_simp
     with_reducible rfl
    rotate_left
    ·simp only [Act.put, List.setIfInBounds_toArray, List.set_cons_zero, List.set_cons_succ, i64_w, i32_w]
     rfl
    refine take_ (i := 6) (N := some 13) (v := ?_) (a' := ?_) #[true, true, true, false, true, true, true, false, false, false] rfl rfl (take_ofW HT_.out HW_.out (by kernel_rfl)) (fun _ _ _ h => h) (Or.inl ⟨by rfl, ?_⟩) hHeld ?_ ?_
    rotate_left
    ·rintro w' ⟨s0, s1, s2, s3, s4, s5, s6⟩
     go_simp
     with_reducible rfl
    rotate_left
    ·simp only [Act.put, List.setIfInBounds_toArray, List.set_cons_zero, List.set_cons_succ, i64_w, i32_w]
     rfl
    refine one_ (i := 3) (N := some 10) #[true, true, true, true, true, true, true, false, false, false] rfl rfl (one_of HT_.out (by kernel_rfl)) (by decide) (fun K hK => ?_)
    refine goes_ Tryd.func34 (by kernel_rfl) rfl #[.agg #[.string a1_0, .int .i64 a1_1], .agg #[.string a0_0, .int .i64 a0_1]] (by rfl) rfl rfl lz ?_
    with_reducible refine (short_cmp.calls k a1_0 a1_1 a0_0 a0_1 t180 _ A3.out).mono ?_
    rintro e w40 ⟨rfl, hb⟩
    refine ⟨_, rfl, ?_⟩
    replace BK178 := Aside0.mk (blk_below (g := gb178) (o := .cells #[.string a0_0, .int .i64 a0_1, .string a0_2, .int .i64 a0_3, .bool true] 70 (0, 0)) bk hb)
    replace BK179 := Aside0.mk (blk_below (g := gb179) (o := .cells #[.string a1_0, .int .i64 a1_1] 28 (0, 0)) bk hb)
    replace HB := Aside0.mk (below_step bz hb)
    (try clear hb)
    (try clear hb2)
    (try clear hk)
    (try clear hi)
    refine hK.out _ _ ⟨(blk_cell BK179.out 0).trans rfl, (blk_cell BK179.out 1).trans rfl, (blk_cell BK178.out 0).trans rfl, (blk_cell BK178.out 1).trans rfl, (blk_cell BK178.out 2).trans rfl, (blk_cell BK178.out 3).trans rfl, (blk_cell BK178.out 4).trans rfl⟩ (fun hHeld => ?_)
    clear hK K
    refine norm_ (a' := ?_) ?_ ?_
    rotate_left
    ·show Act.put _ (some 10) _ = _
     simp only [Act.put, List.setIfInBounds_toArray, List.set_cons_zero, List.set_cons_succ, i64_w, i32_w]
     rfl
    refine one_ (i := 7) (N := some 14) #[true, true, true, true, true, true, true, true, false, false] rfl rfl (one_of HT_.out (by kernel_rfl)) (by decide) (fun K hK => ?_)
    refine goes_ Tryd.func34 (by kernel_rfl) rfl #[.agg #[.string a1_0, .int .i64 a1_1], .agg #[.string a0_2, .int .i64 a0_3]] (by rfl) rfl rfl lz ?_
    with_reducible refine (short_cmp.calls k a1_0 a1_1 a0_2 a0_3 t181 _ A4.out).mono ?_
    rintro e w41 ⟨rfl, hb⟩
    refine ⟨_, rfl, ?_⟩
    replace BK178 := Aside0.mk (blk_below (g := gb178) (o := .cells #[.string a0_0, .int .i64 a0_1, .string a0_2, .int .i64 a0_3, .bool true] 70 (0, 0)) bk hb)
    replace BK179 := Aside0.mk (blk_below (g := gb179) (o := .cells #[.string a1_0, .int .i64 a1_1] 28 (0, 0)) bk hb)
    replace HB := Aside0.mk (below_step bz hb)
    (try clear hb)
    (try clear hb2)
    (try clear hk)
    (try clear hi)
    refine hK.out _ _ ⟨(blk_cell BK179.out 0).trans rfl, (blk_cell BK179.out 1).trans rfl, (blk_cell BK178.out 0).trans rfl, (blk_cell BK178.out 1).trans rfl, (blk_cell BK178.out 2).trans rfl, (blk_cell BK178.out 3).trans rfl, (blk_cell BK178.out 4).trans rfl⟩ (fun hHeld => ?_)
    clear hK K
    refine norm_ (a' := ?_) ?_ ?_
    rotate_left
    ·show Act.put _ (some 14) _ = _
     simp only [Act.put, List.setIfInBounds_toArray, List.set_cons_zero, List.set_cons_succ, i64_w, i32_w]
     rfl
    refine pure_ (i := 8) (N := some 5) (v := ?_) (a' := ?_) #[true, true, true, true, true, true, true, true, true, false] rfl rfl (any_of HT_.out (by kernel_rfl)) (fun _ _ _ h => h) (Or.inl ⟨by rfl, ?_⟩) ?_ ?_
    rotate_left
    ·intro w'
     go_simp
     with_reducible rfl
    rotate_left
    ·simp only [Act.put, List.setIfInBounds_toArray, List.set_cons_zero, List.set_cons_succ, i64_w, i32_w]
     rfl
    refine pure_ (i := 9) (N := some 6) (v := ?_) (a' := ?_) #[true, true, true, true, true, true, true, true, true, true] rfl rfl (any_of HT_.out (by kernel_rfl)) (fun _ _ _ h => h) (Or.inl ⟨by rfl, ?_⟩) ?_ ?_
    rotate_left
    ·intro w'
     go_simp
     with_reducible rfl
    rotate_left
    ·simp only [Act.put, List.setIfInBounds_toArray, List.set_cons_zero, List.set_cons_succ, i64_w, i32_w]
     rfl
    refine done_ (done_of HT_.out (by kernel_rfl)) ?_
    have hnb42 := NB178_179.out
    have hnc42 := NB179_178.out
    obtain ⟨hcz43_0, hcz43_1, hcz43_2, hcz43_3, hcz43_4, hfz43_0, hfz43_1, hfz43_2, hfz43_3, hfz43_4⟩ := cz5 (W := w41) BK178
    try go_wp2
    go_ret
    exact ⟨ez, bz⟩
   ·rw [if_neg c36] at H
    have c36b0 : decide (0 ≤ t180) = false := decide_eq_false c36
    clear c36
    obtain rfl := Option.some.inj H
    go_enter Tryd.func42, Tryd.ntmps42
    try go_wp2_with (first | ((with_reducible refine gate_dst (N := 2) rfl ?_); refine box_event rfl (N := 2) rfl (cs := #[.string a0_0, .int .i64 a0_1, .string a0_2, .int .i64 a0_3, .bool true]) (t := 70) gz ?_; intro gb178 hg w44 hbox hb; have GW178 := gN bz hg; have GE178 := gN bz hg; have BK178 := Aside0.mk hbox; replace HB := bN bz hb; clear hb hbox hg) | ((with_reducible refine gate_dst (N := 3) rfl ?_); refine box_event rfl (N := 3) rfl (cs := #[.string a1_0, .int .i64 a1_1]) (t := 28) gz ?_; intro gb179 hg w45 hbox hb; have GW179 := gN bz hg; have GE179 := gN bz hg; have NB178_179 := lN (g := gb178) (cs := #[.string a0_0, .int .i64 a0_1, .string a0_2, .int .i64 a0_3, .bool true]) hg bk; have NB179_178 := rN (g := gb178) (cs := #[.string a0_0, .int .i64 a0_1, .string a0_2, .int .i64 a0_3, .bool true]) hg bk; replace BK178 := kN (g := gb178) (cs := #[.string a0_0, .int .i64 a0_1, .string a0_2, .int .i64 a0_3, .bool true]) hb bk; have BK179 := Aside0.mk hbox; replace HB := bN bz hb; clear hb hbox hg))
    replace BK178 := Aside0.mk (blk_drew BK178.out)
    replace BK179 := Aside0.mk (blk_drew BK179.out)
    replace HB := Aside0.mk (below_drew1 HB.out)
    refine start_ (n := 10) (S := fun w' => w'.cell? ⟨gb179, 0, none⟩ = some (.string a1_0) ∧ w'.cell? ⟨gb179, 1, none⟩ = some (.int .i64 a1_1) ∧ w'.cell? ⟨gb178, 0, none⟩ = some (.string a0_0) ∧ w'.cell? ⟨gb178, 1, none⟩ = some (.int .i64 a0_1) ∧ w'.cell? ⟨gb178, 2, none⟩ = some (.string a0_2) ∧ w'.cell? ⟨gb178, 3, none⟩ = some (.int .i64 a0_3) ∧ w'.cell? ⟨gb178, 4, none⟩ = some (.bool true)) (ds := []) #[false, false, false, false, false, false, false, false, false, false] (by kernel_rfl) rfl rfl ⟨(blk_cell BK179.out 0).trans rfl, (blk_cell BK179.out 1).trans rfl, (blk_cell BK178.out 0).trans rfl, (blk_cell BK178.out 1).trans rfl, (blk_cell BK178.out 2).trans rfl, (blk_cell BK178.out 3).trans rfl, (blk_cell BK178.out 4).trans rfl⟩ (fun hHeld => ?_); refine with_tabW short_span_in.tab1 short_span_in.bits1 (fun HT_ HW_ => ?_)
    generalize w45.drew = w46 at BK178 BK179 HB hHeld ⊢
    refine pure_ (i := 1) (N := some 8) (v := ?_) (a' := ?_) #[false, true, false, false, false, false, false, false, false, false] rfl rfl (any_of HT_.out (by kernel_rfl)) (fun _ _ _ h => h) (Or.inl ⟨by rfl, ?_⟩) ?_ ?_
    rotate_left
    ·intro w'
     go_simp
     with_reducible rfl
    rotate_left
    ·simp only [Act.put, List.setIfInBounds_toArray, List.set_cons_zero, List.set_cons_succ, i64_w, i32_w]
     rfl
    refine pure_ (i := 5) (N := some 12) (v := ?_) (a' := ?_) #[false, true, false, false, false, true, false, false, false, false] rfl rfl (any_of HT_.out (by kernel_rfl)) (fun _ _ _ h => h) (Or.inl ⟨by rfl, ?_⟩) ?_ ?_
    rotate_left
    ·intro w'
     go_simp
     with_reducible rfl
    rotate_left
    ·simp only [Act.put, List.setIfInBounds_toArray, List.set_cons_zero, List.set_cons_succ, i64_w, i32_w]
     rfl
    refine take_ (i := 0) (N := some 7) (v := ?_) (a' := ?_) #[true, true, false, false, false, true, false, false, false, false] rfl rfl (take_ofW HT_.out HW_.out (by kernel_rfl)) (fun _ _ _ h => h) (Or.inl ⟨by rfl, ?_⟩) hHeld ?_ ?_
    rotate_left
    ·rintro w' ⟨s0, s1, s2, s3, s4, s5, s6⟩
     go_simp
     with_reducible rfl
    rotate_left
    ·simp only [Act.put, List.setIfInBounds_toArray, List.set_cons_zero, List.set_cons_succ, i64_w, i32_w]
     rfl
    refine take_ (i := 2) (N := some 9) (v := ?_) (a' := ?_) #[true, true, true, false, false, true, false, false, false, false] rfl rfl (take_ofW HT_.out HW_.out (by kernel_rfl)) (fun _ _ _ h => h) (Or.inl ⟨by rfl, ?_⟩) hHeld ?_ ?_
    rotate_left
    ·rintro w' ⟨s0, s1, s2, s3, s4, s5, s6⟩
     go_simp
     with_reducible rfl
    rotate_left
    ·simp only [Act.put, List.setIfInBounds_toArray, List.set_cons_zero, List.set_cons_succ, i64_w, i32_w]
     rfl
    refine take_ (i := 4) (N := some 11) (v := ?_) (a' := ?_) #[true, true, true, false, true, true, false, false, false, false] rfl rfl (take_ofW HT_.out HW_.out (by kernel_rfl)) (fun _ _ _ h => h) (Or.inl ⟨by rfl, ?_⟩) hHeld ?_ ?_
    rotate_left
    ·rintro w' ⟨s0, s1, s2, s3, s4, s5, s6⟩
     go_simp
     with_reducible rfl
    rotate_left
    ·simp only [Act.put, List.setIfInBounds_toArray, List.set_cons_zero, List.set_cons_succ, i64_w, i32_w]
     rfl
    refine take_ (i := 6) (N := some 13) (v := ?_) (a' := ?_) #[true, true, true, false, true, true, true, false, false, false] rfl rfl (take_ofW HT_.out HW_.out (by kernel_rfl)) (fun _ _ _ h => h) (Or.inl ⟨by rfl, ?_⟩) hHeld ?_ ?_
    rotate_left
    ·rintro w' ⟨s0, s1, s2, s3, s4, s5, s6⟩
     go_simp
     with_reducible rfl
    rotate_left
    ·simp only [Act.put, List.setIfInBounds_toArray, List.set_cons_zero, List.set_cons_succ, i64_w, i32_w]
     rfl
    refine one_ (i := 3) (N := some 10) #[true, true, true, true, true, true, true, false, false, false] rfl rfl (one_of HT_.out (by kernel_rfl)) (by decide) (fun K hK => ?_)
    refine goes_ Tryd.func34 (by kernel_rfl) rfl #[.agg #[.string a1_0, .int .i64 a1_1], .agg #[.string a0_0, .int .i64 a0_1]] (by rfl) rfl rfl lz ?_
    with_reducible refine (short_cmp.calls k a1_0 a1_1 a0_0 a0_1 t180 _ A3.out).mono ?_
    rintro e w47 ⟨rfl, hb⟩
    refine ⟨_, rfl, ?_⟩
    replace BK178 := Aside0.mk (blk_below (g := gb178) (o := .cells #[.string a0_0, .int .i64 a0_1, .string a0_2, .int .i64 a0_3, .bool true] 70 (0, 0)) bk hb)
    replace BK179 := Aside0.mk (blk_below (g := gb179) (o := .cells #[.string a1_0, .int .i64 a1_1] 28 (0, 0)) bk hb)
    replace HB := Aside0.mk (below_step bz hb)
    (try clear hb)
    (try clear hb2)
    (try clear hk)
    (try clear hi)
    refine hK.out _ _ ⟨(blk_cell BK179.out 0).trans rfl, (blk_cell BK179.out 1).trans rfl, (blk_cell BK178.out 0).trans rfl, (blk_cell BK178.out 1).trans rfl, (blk_cell BK178.out 2).trans rfl, (blk_cell BK178.out 3).trans rfl, (blk_cell BK178.out 4).trans rfl⟩ (fun hHeld => ?_)
    clear hK K
    refine norm_ (a' := ?_) ?_ ?_
    rotate_left
    ·show Act.put _ (some 10) _ = _
     simp only [Act.put, List.setIfInBounds_toArray, List.set_cons_zero, List.set_cons_succ, i64_w, i32_w]
     rfl
    refine one_ (i := 7) (N := some 14) #[true, true, true, true, true, true, true, true, false, false] rfl rfl (one_of HT_.out (by kernel_rfl)) (by decide) (fun K hK => ?_)
    refine goes_ Tryd.func34 (by kernel_rfl) rfl #[.agg #[.string a1_0, .int .i64 a1_1], .agg #[.string a0_2, .int .i64 a0_3]] (by rfl) rfl rfl lz ?_
    with_reducible refine (short_cmp.calls k a1_0 a1_1 a0_2 a0_3 t181 _ A4.out).mono ?_
    rintro e w48 ⟨rfl, hb⟩
    refine ⟨_, rfl, ?_⟩
    replace BK178 := Aside0.mk (blk_below (g := gb178) (o := .cells #[.string a0_0, .int .i64 a0_1, .string a0_2, .int .i64 a0_3, .bool true] 70 (0, 0)) bk hb)
    replace BK179 := Aside0.mk (blk_below (g := gb179) (o := .cells #[.string a1_0, .int .i64 a1_1] 28 (0, 0)) bk hb)
    replace HB := Aside0.mk (below_step bz hb)
    (try clear hb)
    (try clear hb2)
    (try clear hk)
    (try clear hi)
    refine hK.out _ _ ⟨(blk_cell BK179.out 0).trans rfl, (blk_cell BK179.out 1).trans rfl, (blk_cell BK178.out 0).trans rfl, (blk_cell BK178.out 1).trans rfl, (blk_cell BK178.out 2).trans rfl, (blk_cell BK178.out 3).trans rfl, (blk_cell BK178.out 4).trans rfl⟩ (fun hHeld => ?_)
    clear hK K
    refine norm_ (a' := ?_) ?_ ?_
    rotate_left
    ·show Act.put _ (some 14) _ = _
     simp only [Act.put, List.setIfInBounds_toArray, List.set_cons_zero, List.set_cons_succ, i64_w, i32_w]
     rfl
    refine pure_ (i := 8) (N := some 5) (v := ?_) (a' := ?_) #[true, true, true, true, true, true, true, true, true, false] rfl rfl (any_of HT_.out (by kernel_rfl)) (fun _ _ _ h => h) (Or.inl ⟨by rfl, ?_⟩) ?_ ?_
    rotate_left
    ·intro w'
     go_simp
     with_reducible rfl
    rotate_left
    ·simp only [Act.put, List.setIfInBounds_toArray, List.set_cons_zero, List.set_cons_succ, i64_w, i32_w]
     rfl
    refine pure_ (i := 9) (N := some 6) (v := ?_) (a' := ?_) #[true, true, true, true, true, true, true, true, true, true] rfl rfl (any_of HT_.out (by kernel_rfl)) (fun _ _ _ h => h) (Or.inl ⟨by rfl, ?_⟩) ?_ ?_
    rotate_left
    ·intro w'
     go_simp
     with_reducible rfl
    rotate_left
    ·simp only [Act.put, List.setIfInBounds_toArray, List.set_cons_zero, List.set_cons_succ, i64_w, i32_w]
     rfl
    refine done_ (done_of HT_.out (by kernel_rfl)) ?_
    have hnb49 := NB178_179.out
    have hnc49 := NB179_178.out
    obtain ⟨hcz50_0, hcz50_1, hcz50_2, hcz50_3, hcz50_4, hfz50_0, hfz50_1, hfz50_2, hfz50_3, hfz50_4⟩ := cz5 (W := w48) BK178
    try go_wp2
    go_ret
    exact ⟨ez, bz⟩
  ·replace c35 := Bool.eq_false_iff.mpr c35
   subst c35
   replace H := hF H
   obtain rfl := Option.some.inj H
   go_enter Tryd.func42, Tryd.ntmps42
   try go_wp2_with (first | ((with_reducible refine gate_dst (N := 2) rfl ?_); refine box_event rfl (N := 2) rfl (cs := #[.string a0_0, .int .i64 a0_1, .string a0_2, .int .i64 a0_3, .bool false]) (t := 70) gz ?_; intro gb178 hg w51 hbox hb; have GW178 := gN bz hg; have GE178 := gN bz hg; have BK178 := Aside0.mk hbox; replace HB := bN bz hb; clear hb hbox hg) | ((with_reducible refine gate_dst (N := 3) rfl ?_); refine box_event rfl (N := 3) rfl (cs := #[.string a1_0, .int .i64 a1_1]) (t := 28) gz ?_; intro gb179 hg w52 hbox hb; have GW179 := gN bz hg; have GE179 := gN bz hg; have NB178_179 := lN (g := gb178) (cs := #[.string a0_0, .int .i64 a0_1, .string a0_2, .int .i64 a0_3, .bool false]) hg bk; have NB179_178 := rN (g := gb178) (cs := #[.string a0_0, .int .i64 a0_1, .string a0_2, .int .i64 a0_3, .bool false]) hg bk; replace BK178 := kN (g := gb178) (cs := #[.string a0_0, .int .i64 a0_1, .string a0_2, .int .i64 a0_3, .bool false]) hb bk; have BK179 := Aside0.mk hbox; replace HB := bN bz hb; clear hb hbox hg))
   replace BK178 := Aside0.mk (blk_drew BK178.out)
   replace BK179 := Aside0.mk (blk_drew BK179.out)
   replace HB := Aside0.mk (below_drew1 HB.out)
   refine start_ (n := 10) (S := fun w' => w'.cell? ⟨gb179, 0, none⟩ = some (.string a1_0) ∧ w'.cell? ⟨gb179, 1, none⟩ = some (.int .i64 a1_1) ∧ w'.cell? ⟨gb178, 0, none⟩ = some (.string a0_0) ∧ w'.cell? ⟨gb178, 1, none⟩ = some (.int .i64 a0_1) ∧ w'.cell? ⟨gb178, 2, none⟩ = some (.string a0_2) ∧ w'.cell? ⟨gb178, 3, none⟩ = some (.int .i64 a0_3) ∧ w'.cell? ⟨gb178, 4, none⟩ = some (.bool false)) (ds := []) #[false, false, false, false, false, false, false, false, false, false] (by kernel_rfl) rfl rfl ⟨(blk_cell BK179.out 0).trans rfl, (blk_cell BK179.out 1).trans rfl, (blk_cell BK178.out 0).trans rfl, (blk_cell BK178.out 1).trans rfl, (blk_cell BK178.out 2).trans rfl, (blk_cell BK178.out 3).trans rfl, (blk_cell BK178.out 4).trans rfl⟩ (fun hHeld => ?_); refine with_tabW short_span_in.tab1 short_span_in.bits1 (fun HT_ HW_ => ?_)
   generalize w52.drew = w53 at BK178 BK179 HB hHeld ⊢
   refine pure_ (i := 1) (N := some 8) (v := ?_) (a' := ?_) #[false, true, false, false, false, false, false, false, false, false] rfl rfl (any_of HT_.out (by kernel_rfl)) (fun _ _ _ h => h) (Or.inl ⟨by rfl, ?_⟩) ?_ ?_
   rotate_left
   ·intro w'
    go_simp
    with_reducible rfl
   rotate_left
   ·simp only [Act.put, List.setIfInBounds_toArray, List.set_cons_zero, List.set_cons_succ, i64_w, i32_w]
    rfl
   refine pure_ (i := 5) (N := some 12) (v := ?_) (a' := ?_) #[false, true, false, false, false, true, false, false, false, false] rfl rfl (any_of HT_.out (by kernel_rfl)) (fun _ _ _ h => h) (Or.inl ⟨by rfl, ?_⟩) ?_ ?_
   rotate_left
   ·intro w'
    go_simp
    with_reducible rfl
   rotate_left
   ·simp only [Act.put, List.setIfInBounds_toArray, List.set_cons_zero, List.set_cons_succ, i64_w, i32_w]
    rfl
   refine take_ (i := 0) (N := some 7) (v := ?_) (a' := ?_) #[true, true, false, false, false, true, false, false, false, false] rfl rfl (take_ofW HT_.out HW_.out (by kernel_rfl)) (fun _ _ _ h => h) (Or.inl ⟨by rfl, ?_⟩) hHeld ?_ ?_
   rotate_left
   ·rintro w' ⟨s0, s1, s2, s3, s4, s5, s6⟩
    go_simp
    with_reducible rfl
   rotate_left
   ·simp only [Act.put, List.setIfInBounds_toArray, List.set_cons_zero, List.set_cons_succ, i64_w, i32_w]
    rfl
   refine take_ (i := 2) (N := some 9) (v := ?_) (a' := ?_) #[true, true, true, false, false, true, false, false, false, false] rfl rfl (take_ofW HT_.out HW_.out (by kernel_rfl)) (fun _ _ _ h => h) (Or.inl ⟨by rfl, ?_⟩) hHeld ?_ ?_
   rotate_left
   ·rintro w' ⟨s0, s1, s2, s3, s4, s5, s6⟩
    go_simp
    with_reducible rfl
   rotate_left
   ·simp only [Act.put, List.setIfInBounds_toArray, List.set_cons_zero, List.set_cons_succ, i64_w, i32_w]
    rfl
   refine take_ (i := 4) (N := some 11) (v := ?_) (a' := ?_) #[true, true, true, false, true, true, false, false, false, false] rfl rfl (take_ofW HT_.out HW_.out (by kernel_rfl)) (fun _ _ _ h => h) (Or.inl ⟨by rfl, ?_⟩) hHeld ?_ ?_
   rotate_left
   ·rintro w' ⟨s0, s1, s2, s3, s4, s5, s6⟩
    go_simp
    with_reducible rfl
   rotate_left
   ·simp only [Act.put, List.setIfInBounds_toArray, List.set_cons_zero, List.set_cons_succ, i64_w, i32_w]
    rfl
   refine take_ (i := 6) (N := some 13) (v := ?_) (a' := ?_) #[true, true, true, false, true, true, true, false, false, false] rfl rfl (take_ofW HT_.out HW_.out (by kernel_rfl)) (fun _ _ _ h => h) (Or.inl ⟨by rfl, ?_⟩) hHeld ?_ ?_
   rotate_left
   ·rintro w' ⟨s0, s1, s2, s3, s4, s5, s6⟩
    go_simp
    with_reducible rfl
   rotate_left
   ·simp only [Act.put, List.setIfInBounds_toArray, List.set_cons_zero, List.set_cons_succ, i64_w, i32_w]
    rfl
   refine one_ (i := 3) (N := some 10) #[true, true, true, true, true, true, true, false, false, false] rfl rfl (one_of HT_.out (by kernel_rfl)) (by decide) (fun K hK => ?_)
   refine goes_ Tryd.func34 (by kernel_rfl) rfl #[.agg #[.string a1_0, .int .i64 a1_1], .agg #[.string a0_0, .int .i64 a0_1]] (by rfl) rfl rfl lz ?_
   with_reducible refine (short_cmp.calls k a1_0 a1_1 a0_0 a0_1 t180 _ A3.out).mono ?_
   rintro e w54 ⟨rfl, hb⟩
   refine ⟨_, rfl, ?_⟩
   replace BK178 := Aside0.mk (blk_below (g := gb178) (o := .cells #[.string a0_0, .int .i64 a0_1, .string a0_2, .int .i64 a0_3, .bool false] 70 (0, 0)) bk hb)
   replace BK179 := Aside0.mk (blk_below (g := gb179) (o := .cells #[.string a1_0, .int .i64 a1_1] 28 (0, 0)) bk hb)
   replace HB := Aside0.mk (below_step bz hb)
   (try clear hb)
   (try clear hb2)
   (try clear hk)
   (try clear hi)
   refine hK.out _ _ ⟨(blk_cell BK179.out 0).trans rfl, (blk_cell BK179.out 1).trans rfl, (blk_cell BK178.out 0).trans rfl, (blk_cell BK178.out 1).trans rfl, (blk_cell BK178.out 2).trans rfl, (blk_cell BK178.out 3).trans rfl, (blk_cell BK178.out 4).trans rfl⟩ (fun hHeld => ?_)
   clear hK K
   refine norm_ (a' := ?_) ?_ ?_
   rotate_left
   ·show Act.put _ (some 10) _ = _
    simp only [Act.put, List.setIfInBounds_toArray, List.set_cons_zero, List.set_cons_succ, i64_w, i32_w]
    rfl
   refine one_ (i := 7) (N := some 14) #[true, true, true, true, true, true, true, true, false, false] rfl rfl (one_of HT_.out (by kernel_rfl)) (by decide) (fun K hK => ?_)
   refine goes_ Tryd.func34 (by kernel_rfl) rfl #[.agg #[.string a1_0, .int .i64 a1_1], .agg #[.string a0_2, .int .i64 a0_3]] (by rfl) rfl rfl lz ?_
   with_reducible refine (short_cmp.calls k a1_0 a1_1 a0_2 a0_3 t181 _ A4.out).mono ?_
   rintro e w55 ⟨rfl, hb⟩
   refine ⟨_, rfl, ?_⟩
   replace BK178 := Aside0.mk (blk_below (g := gb178) (o := .cells #[.string a0_0, .int .i64 a0_1, .string a0_2, .int .i64 a0_3, .bool false] 70 (0, 0)) bk hb)
   replace BK179 := Aside0.mk (blk_below (g := gb179) (o := .cells #[.string a1_0, .int .i64 a1_1] 28 (0, 0)) bk hb)
   replace HB := Aside0.mk (below_step bz hb)
   (try clear hb)
   (try clear hb2)
   (try clear hk)
   (try clear hi)
   refine hK.out _ _ ⟨(blk_cell BK179.out 0).trans rfl, (blk_cell BK179.out 1).trans rfl, (blk_cell BK178.out 0).trans rfl, (blk_cell BK178.out 1).trans rfl, (blk_cell BK178.out 2).trans rfl, (blk_cell BK178.out 3).trans rfl, (blk_cell BK178.out 4).trans rfl⟩ (fun hHeld => ?_)
   clear hK K
   refine norm_ (a' := ?_) ?_ ?_
   rotate_left
   ·show Act.put _ (some 14) _ = _
    simp only [Act.put, List.setIfInBounds_toArray, List.set_cons_zero, List.set_cons_succ, i64_w, i32_w]
    rfl
   refine pure_ (i := 8) (N := some 5) (v := ?_) (a' := ?_) #[true, true, true, true, true, true, true, true, true, false] rfl rfl (any_of HT_.out (by kernel_rfl)) (fun _ _ _ h => h) (Or.inl ⟨by rfl, ?_⟩) ?_ ?_
   rotate_left
   ·intro w'
    go_simp
    with_reducible rfl
   rotate_left
   ·simp only [Act.put, List.setIfInBounds_toArray, List.set_cons_zero, List.set_cons_succ, i64_w, i32_w]
    rfl
   refine pure_ (i := 9) (N := some 6) (v := ?_) (a' := ?_) #[true, true, true, true, true, true, true, true, true, true] rfl rfl (any_of HT_.out (by kernel_rfl)) (fun _ _ _ h => h) (Or.inl ⟨by rfl, ?_⟩) ?_ ?_
   rotate_left
   ·intro w'
    go_simp
    with_reducible rfl
   rotate_left
   ·simp only [Act.put, List.setIfInBounds_toArray, List.set_cons_zero, List.set_cons_succ, i64_w, i32_w]
    rfl
   refine done_ (done_of HT_.out (by kernel_rfl)) ?_
   have hnb56 := NB178_179.out
   have hnc56 := NB179_178.out
   obtain ⟨hcz57_0, hcz57_1, hcz57_2, hcz57_3, hcz57_4, hfz57_0, hfz57_1, hfz57_2, hfz57_3, hfz57_4⟩ := cz5 (W := w55) BK178
   try go_wp2
   go_ret
   exact ⟨ez, bz⟩
end Go.Proofs.YtmeapdchnnpceaaDoor.Fn
end
section
namespace Go.Proofs.YtmeapdchnnpceaaDoor.Fn
open Go.RowKit Go.Proofs.YtmeapdchnnpceaaDoorW.PrintWords Go.Proofs.YtmeapdchnnpceaaDoorW.PrintLast Go.Proofs.YtmeapdchnnpceaaDoorW.PrintMore
attribute [local go_sem] min2_int min_two
set_option linter.unusedVariables false
set_option linter.unusedSimpArgs false
def short_best.l0 : Nat → Int → ByteArray → Int → ByteArray → Int → Bool → ByteArray → Int → ByteArray → Int → Option (ByteArray × Int × Bool)
 | 0, _, _, _, _, _, _, _, _, _, _ => none
 | k + 1, x59, x255000, x255001, x255002, x255003, x255004, x272000, x272001, x272002, x272003 => if x59 < 2 then (if x59 = 0 then ((short_span_in.f k x255000 x255001 x255002 x255003 x255004 x272000 x272001).bind fun t273 => (if t273 = true then (some (x272000, x272001, true)) else (short_best.l0 k (wrap64 (x59 + 1)) x255000 x255001 x255002 x255003 x255004 x272000 x272001 x272002 x272003))) else (if x59 = 1 then ((short_span_in.f k x255000 x255001 x255002 x255003 x255004 x272002 x272003).bind fun t275 => (if t275 = true then (some (x272002, x272003, true)) else (short_best.l0 k (wrap64 (x59 + 1)) x255000 x255001 x255002 x255003 x255004 x272000 x272001 x272002 x272003))) else (none))) else (some ((⟨#[]⟩ : ByteArray), 0, false))
def short_best.f (k : Nat) (a0_0 : ByteArray) (a0_1 : Int) (a1 : Int) (a2_0 : ByteArray) (a2_1 : Int) (a2_2 : ByteArray) (a2_3 : Int) (a2_4 : Bool) : Option (ByteArray × Int × Bool) := if a1 ≥ (a0_0.size : Int) then (some (a0_0, a0_1, true)) else ((bigdec_Round.f k a0_0 a0_1 a1).bind fun bt257 => ((short_span_in.f k a2_0 a2_1 a2_2 a2_3 a2_4 bt257.1 bt257.2.1).bind fun t261 => (if t261 = true then (some (bt257.1, bt257.2.1, true)) else (if 0 ≤ a1 then (if a1 ≤ (a0_0.size : Int) then ((bigdec_Norm.f k (a0_0.extract 0 (a1 : Int).toNat) a0_1).bind fun bt263 => ((bigdec_Add.f k bt263.1 bt263.2.1 (⟨#[49]⟩ : ByteArray) (wrap64 ((wrap64 (a0_1 - a1)) + 1))).bind fun bt267 => (short_best.l0 k 0 a2_0 a2_1 a2_2 a2_3 a2_4 bt263.1 bt263.2.1 bt267.1 bt267.2.1))) else (none)) else (none)))))
def short_best.T7 : Bool × List (List Nat × List Nat) := (true, [([], []), ([0], [0]), ([], []), ([1, 2], [1, 2]), ([], []), ([4], [4]), ([3, 5], [3, 5]), ([6], [6]), ([7], [7]), ([8], [8]), ([8], [8]), ([], []), ([11, 9, 7, 0, 1, 2, 3, 4, 5, 6, 7, 8, 9, 11], [9, 11]), ([10, 12, 0, 1, 2, 3, 4, 5, 6, 7, 8, 9, 10, 11, 12], [10])])
def short_best.B7 : List Nat := [0, 1, 0, 7, 0, 16, 63, 127, 255, 511, 511, 0, 3071, 8191]
theorem short_best.tab7 : rtab .any (opsOf Tryd.f43 7) = short_best.T7 := by kernel_rfl
theorem short_best.bits7 : waitsOk short_best.T7.2 short_best.B7 = true := by kernel_rfl
set_option maxHeartbeats 8000000 in
set_option maxRecDepth 100000 in
theorem short_best.calls (k : Nat) (a0_0 : ByteArray) (a0_1 : Int) (a1 : Int) (a2_0 : ByteArray) (a2_1 : Int) (a2_2 : ByteArray) (a2_3 : Int) (a2_4 : Bool) (r1 : ByteArray) (r2 : Int) (r3 : Bool) (w : World) (h : short_best.f k a0_0 a0_1 a1 a2_0 a2_1 a2_2 a2_3 a2_4 = some (r1, r2, r3)) :
  Calls Tryd.prog 43 #[.agg #[.string a0_0, .int .i64 a0_1], .int .i64 a1, .func (.func 42) #[.agg #[.string a2_0, .int .i64 a2_1, .string a2_2, .int .i64 a2_3, .bool a2_4]] #[]] w fun e w' => e = .returned (.tuple #[.agg #[.string r1, .int .i64 r2], .bool r3]) ∧ Below w.heap.size w w' := by
 have hu28 := Tryd.underlying28
 have hu85 := Tryd.underlying85
 have HB := Aside0.mk (Below.refl w.heap.size w)
 have H : (if a1 ≥ (a0_0.size : Int) then (some (a0_0, a0_1, true)) else ((bigdec_Round.f k a0_0 a0_1 a1).bind fun bt257 => ((short_span_in.f k a2_0 a2_1 a2_2 a2_3 a2_4 bt257.1 bt257.2.1).bind fun t261 => (if t261 = true then (some (bt257.1, bt257.2.1, true)) else (if 0 ≤ a1 then (if a1 ≤ (a0_0.size : Int) then ((bigdec_Norm.f k (a0_0.extract 0 (a1 : Int).toNat) a0_1).bind fun bt263 => ((bigdec_Add.f k bt263.1 bt263.2.1 (⟨#[49]⟩ : ByteArray) (wrap64 ((wrap64 (a0_1 - a1)) + 1))).bind fun bt267 => (short_best.l0 k 0 a2_0 a2_1 a2_2 a2_3 a2_4 bt263.1 bt263.2.1 bt267.1 bt267.2.1))) else (none)) else (none)))))) = some (r1, r2, r3) := h
 clear h
 go_enter Tryd.func43, Tryd.ntmps43
 go_upto_if 21 with (first | ((with_reducible refine gate_dst (N := 3) rfl ?_); refine box_event rfl (N := 3) rfl (cs := #[.string a0_0, .int .i64 a0_1]) (t := 28) gz ?_; intro gb255 hg w4 hbox hb; have GE255 := gN bz hg; have BK255 := Aside0.mk hbox; replace HB := bN bz hb; clear hb hbox hg) | ((with_reducible refine gate_dst (N := 6) rfl ?_); refine box_event rfl (N := 6) rfl (cs := #[.string (⟨#[]⟩ : ByteArray), .int .i64 0]) (t := 28) gz ?_; intro gb256 hg w5 hbox hb; have GE256 := gN bz hg; have NB255_256 := lN (g := gb255) (cs := #[.string a0_0, .int .i64 a0_1]) hg bk; have NB256_255 := rN (g := gb255) (cs := #[.string a0_0, .int .i64 a0_1]) hg bk; replace BK255 := kN (g := gb255) (cs := #[.string a0_0, .int .i64 a0_1]) hb bk; have BK256 := Aside0.mk hbox; replace HB := bN bz hb; clear hb hbox hg; have hnb6 := NB255_256.out; have hnc6 := NB256_255.out; obtain ⟨hcz7_0, hcz7_1, hfz7_0, hfz7_1⟩ := cz2 (W := w5) BK255))
 (try simp only [Act.put, List.setIfInBounds_toArray, List.set_cons_zero, List.set_cons_succ])
 by_cases c8 : a1 ≥ (a0_0.size : Int)
 ·rw [if_pos c8] at H
  have c8b0 : decide ((a0_0.size : Int) ≤ a1) = true := decide_eq_true c8
  clear c8
  try rw [c8b0]
  simp only [Option.some.injEq, Prod.mk.injEq] at H
  obtain ⟨rfl, rfl, rfl⟩ := H
  have hnb9 := NB255_256.out
  have hnc9 := NB256_255.out
  obtain ⟨hcz10_0, hcz10_1, hfz10_0, hfz10_1⟩ := cz2 (W := w5) BK255
  obtain ⟨hcz11_0, hcz11_1, hfz11_0, hfz11_1⟩ := cz2 (W := w5) BK256
  go_wp2
  refine bodyPost_ret (results_ct rfl _ _ gb256 28 #[.string a0_0, .int .i64 a0_1] (0, 0) _ rfl bk Tryd.underlying28 rfl (by kernel_rfl)) rfl ?_
  exact ⟨ez, bz⟩
 ·rw [if_neg c8] at H
  have c8b0 : decide ((a0_0.size : Int) ≤ a1) = false := decide_eq_false c8
  clear c8
  try rw [c8b0]
  replace H := bs H
  obtain ⟨⟨t257, t258, t259⟩, A12, H⟩ := H
  dsimp only at H
  replace H := bs H
  obtain ⟨t261, A13, H⟩ := H
  have hnb14 := NB255_256.out
  have hnc14 := NB256_255.out
  obtain ⟨hcz15_0, hcz15_1, hfz15_0, hfz15_1⟩ := cz2 (W := w5) BK255
  go_upto_if 31 with (first | ((with_reducible refine gate_callee (f := 24) rfl ?_); refine goesL_ (some 26) rfl rfl Tryd.func24 (by kernel_rfl) rfl #[.agg #[.string a0_0, .int .i64 a0_1], .int .i64 a1] rfl lz ?_; (with_reducible refine (bigdec_Round.calls k a0_0 a0_1 a1 t257 t258 t259 _ A12.out).mono ?_); rintro e w16 ⟨rfl, hb⟩; refine ⟨_, rfl, ?_⟩; replace BK255 := kN (g := gb255) (cs := #[.string a0_0, .int .i64 a0_1]) hb bk; replace BK256 := kN (g := gb256) (cs := #[.string (⟨#[]⟩ : ByteArray), .int .i64 0]) hb bk; replace HB := bN bz hb; (try clear hb); (try clear hb2); (try clear hk); (try clear hi)) | ((with_reducible refine gate_dst (N := 8) rfl ?_); refine box_event rfl (N := 8) rfl (cs := #[.string (⟨#[]⟩ : ByteArray), .int .i64 0]) (t := 28) gz ?_; intro gb260 hg w17 hbox hb; have GE260 := gN bz hg; have NB255_260 := lN (g := gb255) (cs := #[.string a0_0, .int .i64 a0_1]) hg bk; have NB260_255 := rN (g := gb255) (cs := #[.string a0_0, .int .i64 a0_1]) hg bk; have NB256_260 := lN (g := gb256) (cs := #[.string (⟨#[]⟩ : ByteArray), .int .i64 0]) hg bk; have NB260_256 := rN (g := gb256) (cs := #[.string (⟨#[]⟩ : ByteArray), .int .i64 0]) hg bk; replace BK255 := kN (g := gb255) (cs := #[.string a0_0, .int .i64 a0_1]) hb bk; replace BK256 := kN (g := gb256) (cs := #[.string (⟨#[]⟩ : ByteArray), .int .i64 0]) hb bk; have BK260 := Aside0.mk hbox; replace HB := bN bz hb; clear hb hbox hg; have hnb18 := NB260_255.out; have hnc18 := NB255_260.out; have hnb19 := NB260_256.out; have hnc19 := NB256_260.out; obtain ⟨hcz20_0, hcz20_1, hfz20_0, hfz20_1⟩ := cz2 (W := w17) BK260) | (go_at_call 42; (with_reducible refine (short_span_in.calls k a2_0 a2_1 a2_2 a2_3 a2_4 t257 t258 t261 _ A13.out).mono ?_); rintro e w21 ⟨rfl, hb⟩; replace BK255 := kN (g := gb255) (cs := #[.string a0_0, .int .i64 a0_1]) hb bk; replace BK256 := kN (g := gb256) (cs := #[.string (⟨#[]⟩ : ByteArray), .int .i64 0]) hb bk; replace BK260 := kN (g := gb260) (cs := #[.string t257, .int .i64 t258]) hb bk; replace HB := bN bz hb; (try clear hb); (try clear hb2); (try clear hk); (try clear hi)))
  (try simp only [Act.put, List.setIfInBounds_toArray, List.set_cons_zero, List.set_cons_succ])
  by_cases c22 : t261 = true
  ·subst c22
   replace H := hT H
   simp only [Option.some.injEq, Prod.mk.injEq] at H
   obtain ⟨rfl, rfl, rfl⟩ := H
   have hnb23 := NB260_255.out
   have hnc23 := NB255_260.out
   have hnb24 := NB260_256.out
   have hnc24 := NB256_260.out
   obtain ⟨hcz25_0, hcz25_1, hfz25_0, hfz25_1⟩ := cz2 (W := w21) BK260
   have hnb26 := NB256_255.out
   have hnc26 := NB255_256.out
   obtain ⟨hcz27_0, hcz27_1, hfz27_0, hfz27_1⟩ := cz2 (W := w21) BK256
   go_wp2
   refine bodyPost_ret (results_ct rfl _ _ gb256 28 #[.string t257, .int .i64 t258] (0, 0) _ rfl bk Tryd.underlying28 rfl (by kernel_rfl)) rfl ?_
   exact ⟨ez, bz⟩
  ·replace c22 := Bool.eq_false_iff.mpr c22
   subst c22
   replace H := hF H
   by_cases c28 : 0 ≤ a1
   ·rw [if_pos c28] at H
    have c28b0 := eq_true c28
    have c28b1 : decide (0 ≤ a1) = true := decide_eq_true c28
    clear c28
    by_cases c29 : a1 ≤ (a0_0.size : Int)
    ·rw [if_pos c29] at H
     have c29b0 := eq_true c29
     have c29b1 : decide (a1 ≤ (a0_0.size : Int)) = true := decide_eq_true c29
     clear c29
     replace H := bs H
     obtain ⟨⟨t263, t264, t265⟩, A30, H⟩ := H
     dsimp only at H
     replace H := bs H
     obtain ⟨⟨t267, t268, t269⟩, A31, H⟩ := H
     dsimp only at H
     have H' := Aside0.mk H
     clear H
     have hnb32 := NB255_256.out
     have hnc32 := NB256_255.out
     have hnb33 := NB255_260.out
     have hnc33 := NB260_255.out
     obtain ⟨hcz34_0, hcz34_1, hfz34_0, hfz34_1⟩ := cz2 (W := w21) BK255
     try go_wp2_with (first | ((with_reducible refine gate_dst (N := 10) rfl ?_); refine box_event rfl (N := 10) rfl (cs := #[.string (⟨#[]⟩ : ByteArray), .int .i64 0]) (t := 28) gz ?_; intro gb262 hg w35 hbox hb; have GE262 := gN bz hg; have NB255_262 := lN (g := gb255) (cs := #[.string a0_0, .int .i64 a0_1]) hg bk; have NB262_255 := rN (g := gb255) (cs := #[.string a0_0, .int .i64 a0_1]) hg bk; have NB256_262 := lN (g := gb256) (cs := #[.string (⟨#[]⟩ : ByteArray), .int .i64 0]) hg bk; have NB262_256 := rN (g := gb256) (cs := #[.string (⟨#[]⟩ : ByteArray), .int .i64 0]) hg bk; have NB260_262 := lN (g := gb260) (cs := #[.string t257, .int .i64 t258]) hg bk; have NB262_260 := rN (g := gb260) (cs := #[.string t257, .int .i64 t258]) hg bk; replace BK255 := kN (g := gb255) (cs := #[.string a0_0, .int .i64 a0_1]) hb bk; replace BK256 := kN (g := gb256) (cs := #[.string (⟨#[]⟩ : ByteArray), .int .i64 0]) hb bk; replace BK260 := kN (g := gb260) (cs := #[.string t257, .int .i64 t258]) hb bk; have BK262 := Aside0.mk hbox; replace HB := bN bz hb; clear hb hbox hg; have hnb36 := NB262_255.out; have hnc36 := NB255_262.out; have hnb37 := NB262_256.out; have hnc37 := NB256_262.out; have hnb38 := NB262_260.out; have hnc38 := NB260_262.out; obtain ⟨hcz39_0, hcz39_1, hfz39_0, hfz39_1⟩ := cz2 (W := w35) BK262))
     have n0_ : Aside0 (((w35.setCell ⟨gb262, 0, none⟩ (.string (⟨#[49]⟩ : ByteArray))).setCell ⟨gb262, 1, none⟩ (.int .i64 (wrap64 ((wrap64 (a0_1 - a1)) + 1)))).heap[gb255]? = some (.cells #[.string a0_0, .int .i64 a0_1] 28 (0, 0))) := ⟨bk⟩
     have n1_ : Aside0 (((w35.setCell ⟨gb262, 0, none⟩ (.string (⟨#[49]⟩ : ByteArray))).setCell ⟨gb262, 1, none⟩ (.int .i64 (wrap64 ((wrap64 (a0_1 - a1)) + 1)))).heap[gb256]? = some (.cells #[.string (⟨#[]⟩ : ByteArray), .int .i64 0] 28 (0, 0))) := ⟨bk⟩
     have n2_ : Aside0 (((w35.setCell ⟨gb262, 0, none⟩ (.string (⟨#[49]⟩ : ByteArray))).setCell ⟨gb262, 1, none⟩ (.int .i64 (wrap64 ((wrap64 (a0_1 - a1)) + 1)))).heap[gb260]? = some (.cells #[.string t257, .int .i64 t258] 28 (0, 0))) := ⟨bk⟩
     have n3_ : Aside0 (((w35.setCell ⟨gb262, 0, none⟩ (.string (⟨#[49]⟩ : ByteArray))).setCell ⟨gb262, 1, none⟩ (.int .i64 (wrap64 ((wrap64 (a0_1 - a1)) + 1)))).heap[gb262]? = some (.cells #[.string (⟨#[49]⟩ : ByteArray), .int .i64 (wrap64 ((wrap64 (a0_1 - a1)) + 1))] 28 (0, 0))) := ⟨bk⟩
     have n4_ : Aside0 (Below w.heap.size w ((w35.setCell ⟨gb262, 0, none⟩ (.string (⟨#[49]⟩ : ByteArray))).setCell ⟨gb262, 1, none⟩ (.int .i64 (wrap64 ((wrap64 (a0_1 - a1)) + 1))))) := ⟨bz⟩
     (try clear BK255)
     (try clear BK256)
     (try clear BK260)
     (try clear BK262)
     (try clear HB)
     generalize ((w35.setCell ⟨gb262, 0, none⟩ (.string (⟨#[49]⟩ : ByteArray))).setCell ⟨gb262, 1, none⟩ (.int .i64 (wrap64 ((wrap64 (a0_1 - a1)) + 1)))) = w40 at n0_ n1_ n2_ n3_ n4_ ⊢
     have BK255 := n0_
     have BK256 := n1_
     have BK260 := n2_
     have BK262 := n3_
     have HB := n4_
     clear n0_ n1_ n2_ n3_ n4_
     replace BK255 := Aside0.mk (blk_drew BK255.out)
     replace BK256 := Aside0.mk (blk_drew BK256.out)
     replace BK260 := Aside0.mk (blk_drew BK260.out)
     replace BK262 := Aside0.mk (blk_drew BK262.out)
     replace HB := Aside0.mk (below_drew1 HB.out)
     refine start_ (n := 14) (S := fun w' => w'.cell? ⟨gb255, 0, none⟩ = some (.string a0_0) ∧ w'.cell? ⟨gb255, 1, none⟩ = some (.int .i64 a0_1)) (ds := []) #[false, false, false, false, false, false, false, false, false, false, false, false, false, false] (by kernel_rfl) rfl rfl ⟨(blk_cell BK255.out 0).trans rfl, (blk_cell BK255.out 1).trans rfl⟩ (fun hHeld => ?_); refine with_tabW short_best.tab7 short_best.bits7 (fun HT_ HW_ => ?_)
     generalize w40.drew = w41 at BK255 BK256 BK260 BK262 HB hHeld ⊢
     refine pure_ (i := 0) (N := some 40) (v := ?_) (a' := ?_) #[true, false, false, false, false, false, false, false, false, false, false, false, false, false] rfl rfl (any_of HT_.out (by kernel_rfl)) (fun _ _ _ h => h) (Or.inl ⟨by rfl, ?_⟩) ?_ ?_
     rotate_left
     ·intro w'
      go_simp
      with_reducible rfl
     rotate_left
     ·simp only [Act.put, List.setIfInBounds_toArray, List.set_cons_zero, List.set_cons_succ, i64_w, i32_w]
      rfl
     refine pure_ (i := 2) (N := some 42) (v := ?_) (a' := ?_) #[true, false, true, false, false, false, false, false, false, false, false, false, false, false] rfl rfl (any_of HT_.out (by kernel_rfl)) (fun _ _ _ h => h) (Or.inl ⟨by rfl, ?_⟩) ?_ ?_
     rotate_left
     ·intro w'
      go_simp
      with_reducible rfl
     rotate_left
     ·simp only [Act.put, List.setIfInBounds_toArray, List.set_cons_zero, List.set_cons_succ, i64_w, i32_w]
      rfl
     refine pure_ (i := 4) (N := some 44) (v := ?_) (a' := ?_) #[true, false, true, false, true, false, false, false, false, false, false, false, false, false] rfl rfl (any_of HT_.out (by kernel_rfl)) (fun _ _ _ h => h) (Or.inl ⟨by rfl, ?_⟩) ?_ ?_
     rotate_left
     ·intro w'
      go_simp
      with_reducible rfl
     rotate_left
     ·simp only [Act.put, List.setIfInBounds_toArray, List.set_cons_zero, List.set_cons_succ, i64_w, i32_w]
      rfl
     refine take_ (i := 1) (N := some 41) (v := ?_) (a' := ?_) #[true, true, true, false, true, false, false, false, false, false, false, false, false, false] rfl rfl (take_ofW HT_.out HW_.out (by kernel_rfl)) (fun _ _ _ h => h) (Or.inl ⟨by rfl, ?_⟩) hHeld ?_ ?_
     rotate_left
     ·rintro w' ⟨s0, s1⟩
      go_simp
      with_reducible rfl
     rotate_left
     ·simp only [Act.put, List.setIfInBounds_toArray, List.set_cons_zero, List.set_cons_succ, i64_w, i32_w]
      rfl
     refine pure_ (i := 3) (N := some 43) (v := ?_) (a' := ?_) #[true, true, true, true, true, false, false, false, false, false, false, false, false, false] rfl rfl (any_of HT_.out (by kernel_rfl)) (fun _ _ _ h => h) (Or.inl ⟨by rfl, ?_⟩) ?_ ?_
     rotate_left
     ·intro w'
      go_simp
      with_reducible rfl
     rotate_left
     ·simp only [Act.put, List.setIfInBounds_toArray, List.set_cons_zero, List.set_cons_succ, i64_w, i32_w]
      rfl
     refine take_ (i := 5) (N := some 45) (v := ?_) (a' := ?_) #[true, true, true, true, true, true, false, false, false, false, false, false, false, false] rfl rfl (take_ofW HT_.out HW_.out (by kernel_rfl)) (fun _ _ _ h => h) (Or.inl ⟨by rfl, ?_⟩) hHeld ?_ ?_
     rotate_left
     ·rintro w' ⟨s0, s1⟩
      go_simp
      with_reducible rfl
     rotate_left
     ·simp only [Act.put, List.setIfInBounds_toArray, List.set_cons_zero, List.set_cons_succ, i64_w, i32_w]
      rfl
     refine pure_ (i := 6) (N := some 46) (v := ?_) (a' := ?_) #[true, true, true, true, true, true, true, false, false, false, false, false, false, false] rfl rfl (any_of HT_.out (by kernel_rfl)) (fun _ _ _ h => h) (Or.inl ⟨by rfl, ?_⟩) ?_ ?_
     rotate_left
     ·intro w'
      go_simp
      with_reducible rfl
     rotate_left
     ·simp only [Act.put, List.setIfInBounds_toArray, List.set_cons_zero, List.set_cons_succ, i64_w, i32_w]
      rfl
     refine join_ (σ := Nat) 2 #[true, true, true, true, true, true, true, true, true, true, true, true, false, false] (fun s_ => [(47, .tuple #[.agg #[.string t263, .int .i64 t264], .int .i64 t265]), (11, .pointer (some ⟨s_, 0, none⟩)), (39, .tuple #[.agg #[.string t263, .int .i64 t264], .int .i64 t265]), (48, .agg #[.string t263, .int .i64 t264]), (49, .int .i64 t265)]) (fun s_ w' => (w'.cell? ⟨gb255, 0, none⟩ = some (.string a0_0) ∧ w'.cell? ⟨gb255, 1, none⟩ = some (.int .i64 a0_1)) ∧ (w'.heap[gb255]? = some (.cells #[.string a0_0, .int .i64 a0_1] 28 (0, 0))) ∧ (w'.heap[gb256]? = some (.cells #[.string (⟨#[]⟩ : ByteArray), .int .i64 0] 28 (0, 0))) ∧ (w'.heap[gb260]? = some (.cells #[.string t257, .int .i64 t258] 28 (0, 0))) ∧ (w'.heap[gb262]? = some (.cells #[.string (⟨#[49]⟩ : ByteArray), .int .i64 (wrap64 ((wrap64 (a0_1 - a1)) + 1))] 28 (0, 0))) ∧ (w'.heap[s_]? = some (.cells #[.string (⟨#[]⟩ : ByteArray), .int .i64 0] 28 (0, 0))) ∧ (w.heap.size ≤ s_) ∧ (w.heap.size ≤ s_) ∧ (gb255 ≠ s_) ∧ (s_ ≠ gb255) ∧ (gb256 ≠ s_) ∧ (s_ ≠ gb256) ∧ (gb260 ≠ s_) ∧ (s_ ≠ gb260) ∧ (gb262 ≠ s_) ∧ (s_ ≠ gb262) ∧ (Below w.heap.size w w')) ?_ ?_
     rotate_left
     ·intro hCont
      refine two_ (i := 7) (j := 11) (Ni := some 47) (Nj := some 11) #[true, true, true, true, true, true, true, true, false, false, false, false, false, false] #[true, true, true, true, true, true, true, false, false, false, false, true, false, false] rfl rfl rfl rfl (two_of HT_.out (by kernel_rfl)) (by decide) (by decide) (fun K hK => ?_) (fun K hK => ?_)
      ·skip
       refine goes_ Tryd.func32 (by kernel_rfl) rfl #[.agg #[.string (a0_0.extract 0 (a1 : Int).toNat), .int .i64 a0_1]] (by rfl) rfl rfl lz ?_
       with_reducible refine (bigdec_Norm.calls k (a0_0.extract 0 (a1 : Int).toNat) a0_1 t263 t264 t265 _ A30.out).mono ?_
       rintro e w42 ⟨rfl, hb⟩
       refine ⟨_, rfl, ?_⟩
       replace BK255 := Aside0.mk (blk_below (g := gb255) (o := .cells #[.string a0_0, .int .i64 a0_1] 28 (0, 0)) bk hb)
       replace BK256 := Aside0.mk (blk_below (g := gb256) (o := .cells #[.string (⟨#[]⟩ : ByteArray), .int .i64 0] 28 (0, 0)) bk hb)
       replace BK260 := Aside0.mk (blk_below (g := gb260) (o := .cells #[.string t257, .int .i64 t258] 28 (0, 0)) bk hb)
       replace BK262 := Aside0.mk (blk_below (g := gb262) (o := .cells #[.string (⟨#[49]⟩ : ByteArray), .int .i64 (wrap64 ((wrap64 (a0_1 - a1)) + 1))] 28 (0, 0)) bk hb)
       replace HB := Aside0.mk (below_step bz hb)
       (try clear hb)
       (try clear hb2)
       (try clear hk)
       (try clear hi)
       refine hK.out _ _ ⟨(blk_cell BK255.out 0).trans rfl, (blk_cell BK255.out 1).trans rfl⟩ (fun hHeld => ?_)
       clear hK K
       refine norm_ (a' := ?_) ?_ ?_
       rotate_left
       ·show Act.put _ (some 47) _ = _
        simp only [Act.put, List.setIfInBounds_toArray, List.set_cons_zero, List.set_cons_succ, i64_w, i32_w]
        rfl
       refine pure_ (i := 8) (N := some 39) (v := ?_) (a' := ?_) #[true, true, true, true, true, true, true, true, true, false, false, false, false, false] rfl rfl (any_of HT_.out (by kernel_rfl)) (fun _ _ _ h => h) (Or.inl ⟨by rfl, ?_⟩) ?_ ?_
       rotate_left
       ·intro w'
        go_simp
        with_reducible rfl
       rotate_left
       ·simp only [Act.put, List.setIfInBounds_toArray, List.set_cons_zero, List.set_cons_succ, i64_w, i32_w]
        rfl
       refine pure_ (i := 9) (N := some 48) (v := ?_) (a' := ?_) #[true, true, true, true, true, true, true, true, true, true, false, false, false, false] rfl rfl (any_of HT_.out (by kernel_rfl)) (fun _ _ _ h => h) (Or.inl ⟨by rfl, ?_⟩) ?_ ?_
       rotate_left
       ·intro w'
        go_simp
        with_reducible rfl
       rotate_left
       ·simp only [Act.put, List.setIfInBounds_toArray, List.set_cons_zero, List.set_cons_succ, i64_w, i32_w]
        rfl
       refine pure_ (i := 10) (N := some 49) (v := ?_) (a' := ?_) #[true, true, true, true, true, true, true, true, true, true, true, false, false, false] rfl rfl (any_of HT_.out (by kernel_rfl)) (fun _ _ _ h => h) (Or.inl ⟨by rfl, ?_⟩) ?_ ?_
       rotate_left
       ·intro w'
        go_simp
        with_reducible rfl
       rotate_left
       ·simp only [Act.put, List.setIfInBounds_toArray, List.set_cons_zero, List.set_cons_succ, i64_w, i32_w]
        rfl
       refine one_ (i := 11) (N := some 11) #[true, true, true, true, true, true, true, true, true, true, true, true, false, false] rfl rfl (one_of HT_.out (by kernel_rfl)) (by decide) (fun K hK => ?_)
       refine box_step ?hg (N := 11) ?hd (cs := #[.string (⟨#[]⟩ : ByteArray), .int .i64 0]) (t := 28) ?hr ?_; (case hd => rfl); (case hg => rfl); (case hr => first | (go_simp; done) | (go_simp; rfl))
       intro gb266 hg w43 hbox hb
       have BK266 := Aside0.mk (hbox)
       have GW266 := Aside0.mk ((by rw [hg]; exact (below_size bz) : w.heap.size ≤ gb266))
       have GE266 := Aside0.mk ((by rw [hg]; exact (below_size bz) : w.heap.size ≤ gb266))
       have NB255_266 := Aside0.mk ((by rw [hg]; exact Nat.ne_of_lt (blk_lt (g := gb255) (o := .cells #[.string a0_0, .int .i64 a0_1] 28 (0, 0)) bk) : gb255 ≠ gb266))
       have NB266_255 := Aside0.mk ((by rw [hg]; exact Nat.ne_of_gt (blk_lt (g := gb255) (o := .cells #[.string a0_0, .int .i64 a0_1] 28 (0, 0)) bk) : gb266 ≠ gb255))
       have NB256_266 := Aside0.mk ((by rw [hg]; exact Nat.ne_of_lt (blk_lt (g := gb256) (o := .cells #[.string (⟨#[]⟩ : ByteArray), .int .i64 0] 28 (0, 0)) bk) : gb256 ≠ gb266))
       have NB266_256 := Aside0.mk ((by rw [hg]; exact Nat.ne_of_gt (blk_lt (g := gb256) (o := .cells #[.string (⟨#[]⟩ : ByteArray), .int .i64 0] 28 (0, 0)) bk) : gb266 ≠ gb256))
       have NB260_266 := Aside0.mk ((by rw [hg]; exact Nat.ne_of_lt (blk_lt (g := gb260) (o := .cells #[.string t257, .int .i64 t258] 28 (0, 0)) bk) : gb260 ≠ gb266))
       have NB266_260 := Aside0.mk ((by rw [hg]; exact Nat.ne_of_gt (blk_lt (g := gb260) (o := .cells #[.string t257, .int .i64 t258] 28 (0, 0)) bk) : gb266 ≠ gb260))
       have NB262_266 := Aside0.mk ((by rw [hg]; exact Nat.ne_of_lt (blk_lt (g := gb262) (o := .cells #[.string (⟨#[49]⟩ : ByteArray), .int .i64 (wrap64 ((wrap64 (a0_1 - a1)) + 1))] 28 (0, 0)) bk) : gb262 ≠ gb266))
       have NB266_262 := Aside0.mk ((by rw [hg]; exact Nat.ne_of_gt (blk_lt (g := gb262) (o := .cells #[.string (⟨#[49]⟩ : ByteArray), .int .i64 (wrap64 ((wrap64 (a0_1 - a1)) + 1))] 28 (0, 0)) bk) : gb266 ≠ gb262))
       replace BK255 := Aside0.mk (blk_below (g := gb255) (o := .cells #[.string a0_0, .int .i64 a0_1] 28 (0, 0)) bk hb)
       replace BK256 := Aside0.mk (blk_below (g := gb256) (o := .cells #[.string (⟨#[]⟩ : ByteArray), .int .i64 0] 28 (0, 0)) bk hb)
       replace BK260 := Aside0.mk (blk_below (g := gb260) (o := .cells #[.string t257, .int .i64 t258] 28 (0, 0)) bk hb)
       replace BK262 := Aside0.mk (blk_below (g := gb262) (o := .cells #[.string (⟨#[49]⟩ : ByteArray), .int .i64 (wrap64 ((wrap64 (a0_1 - a1)) + 1))] 28 (0, 0)) bk hb)
       replace HB := Aside0.mk (below_step bz hb)
       clear hb hbox hg
       refine hK.out _ _ ⟨(blk_cell BK255.out 0).trans rfl, (blk_cell BK255.out 1).trans rfl⟩ (fun hHeld => ?_)
       clear hK K
       refine norm_ (a' := ?_) ?_ ?_
       rotate_left
       ·show Act.put _ (some 11) _ = _
        simp only [Act.put, List.setIfInBounds_toArray, List.set_cons_zero, List.set_cons_succ, i64_w, i32_w]
        rfl
       exact norm_ (by simp only [putAll, Act.put, List.setIfInBounds_toArray, List.set_cons_zero, List.set_cons_succ]) (hCont (gb266) _ ⟨hHeld, bk, bk, bk, bk, bk, GW266.out, GE266.out, NB255_266.out, NB266_255.out, NB256_266.out, NB266_256.out, NB260_266.out, NB266_260.out, NB262_266.out, NB266_262.out, bz⟩)
      ·skip
       refine box_step ?hg (N := 11) ?hd (cs := #[.string (⟨#[]⟩ : ByteArray), .int .i64 0]) (t := 28) ?hr ?_; (case hd => rfl); (case hg => rfl); (case hr => first | (go_simp; done) | (go_simp; rfl))
       intro gb266 hg w42 hbox hb
       have BK266 := Aside0.mk (hbox)
       have GW266 := Aside0.mk ((by rw [hg]; exact (below_size bz) : w.heap.size ≤ gb266))
       have GE266 := Aside0.mk ((by rw [hg]; exact (below_size bz) : w.heap.size ≤ gb266))
       have NB255_266 := Aside0.mk ((by rw [hg]; exact Nat.ne_of_lt (blk_lt (g := gb255) (o := .cells #[.string a0_0, .int .i64 a0_1] 28 (0, 0)) bk) : gb255 ≠ gb266))
       have NB266_255 := Aside0.mk ((by rw [hg]; exact Nat.ne_of_gt (blk_lt (g := gb255) (o := .cells #[.string a0_0, .int .i64 a0_1] 28 (0, 0)) bk) : gb266 ≠ gb255))
       have NB256_266 := Aside0.mk ((by rw [hg]; exact Nat.ne_of_lt (blk_lt (g := gb256) (o := .cells #[.string (⟨#[]⟩ : ByteArray), .int .i64 0] 28 (0, 0)) bk) : gb256 ≠ gb266))
       have NB266_256 := Aside0.mk ((by rw [hg]; exact Nat.ne_of_gt (blk_lt (g := gb256) (o := .cells #[.string (⟨#[]⟩ : ByteArray), .int .i64 0] 28 (0, 0)) bk) : gb266 ≠ gb256))
       have NB260_266 := Aside0.mk ((by rw [hg]; exact Nat.ne_of_lt (blk_lt (g := gb260) (o := .cells #[.string t257, .int .i64 t258] 28 (0, 0)) bk) : gb260 ≠ gb266))
       have NB266_260 := Aside0.mk ((by rw [hg]; exact Nat.ne_of_gt (blk_lt (g := gb260) (o := .cells #[.string t257, .int .i64 t258] 28 (0, 0)) bk) : gb266 ≠ gb260))
       have NB262_266 := Aside0.mk ((by rw [hg]; exact Nat.ne_of_lt (blk_lt (g := gb262) (o := .cells #[.string (⟨#[49]⟩ : ByteArray), .int .i64 (wrap64 ((wrap64 (a0_1 - a1)) + 1))] 28 (0, 0)) bk) : gb262 ≠ gb266))
       have NB266_262 := Aside0.mk ((by rw [hg]; exact Nat.ne_of_gt (blk_lt (g := gb262) (o := .cells #[.string (⟨#[49]⟩ : ByteArray), .int .i64 (wrap64 ((wrap64 (a0_1 - a1)) + 1))] 28 (0, 0)) bk) : gb266 ≠ gb262))
       replace BK255 := Aside0.mk (blk_below (g := gb255) (o := .cells #[.string a0_0, .int .i64 a0_1] 28 (0, 0)) bk hb)
       replace BK256 := Aside0.mk (blk_below (g := gb256) (o := .cells #[.string (⟨#[]⟩ : ByteArray), .int .i64 0] 28 (0, 0)) bk hb)
       replace BK260 := Aside0.mk (blk_below (g := gb260) (o := .cells #[.string t257, .int .i64 t258] 28 (0, 0)) bk hb)
       replace BK262 := Aside0.mk (blk_below (g := gb262) (o := .cells #[.string (⟨#[49]⟩ : ByteArray), .int .i64 (wrap64 ((wrap64 (a0_1 - a1)) + 1))] 28 (0, 0)) bk hb)
       replace HB := Aside0.mk (below_step bz hb)
       clear hb hbox hg
       refine hK.out _ _ ⟨(blk_cell BK255.out 0).trans rfl, (blk_cell BK255.out 1).trans rfl⟩ (fun hHeld => ?_)
       clear hK K
       refine norm_ (a' := ?_) ?_ ?_
       rotate_left
       ·show Act.put _ (some 11) _ = _
        simp only [Act.put, List.setIfInBounds_toArray, List.set_cons_zero, List.set_cons_succ, i64_w, i32_w]
        rfl
       refine one_ (i := 7) (N := some 47) #[true, true, true, true, true, true, true, true, false, false, false, true, false, false] rfl rfl (one_of HT_.out (by kernel_rfl)) (by decide) (fun K hK => ?_)
       refine goes_ Tryd.func32 (by kernel_rfl) rfl #[.agg #[.string (a0_0.extract 0 (a1 : Int).toNat), .int .i64 a0_1]] (by rfl) rfl rfl lz ?_
       with_reducible refine (bigdec_Norm.calls k (a0_0.extract 0 (a1 : Int).toNat) a0_1 t263 t264 t265 _ A30.out).mono ?_
       rintro e w43 ⟨rfl, hb⟩
       refine ⟨_, rfl, ?_⟩
       replace BK255 := Aside0.mk (blk_below (g := gb255) (o := .cells #[.string a0_0, .int .i64 a0_1] 28 (0, 0)) bk hb)
       replace BK256 := Aside0.mk (blk_below (g := gb256) (o := .cells #[.string (⟨#[]⟩ : ByteArray), .int .i64 0] 28 (0, 0)) bk hb)
       replace BK260 := Aside0.mk (blk_below (g := gb260) (o := .cells #[.string t257, .int .i64 t258] 28 (0, 0)) bk hb)
       replace BK262 := Aside0.mk (blk_below (g := gb262) (o := .cells #[.string (⟨#[49]⟩ : ByteArray), .int .i64 (wrap64 ((wrap64 (a0_1 - a1)) + 1))] 28 (0, 0)) bk hb)
       replace BK266 := Aside0.mk (blk_below (g := gb266) (o := .cells #[.string (⟨#[]⟩ : ByteArray), .int .i64 0] 28 (0, 0)) bk hb)
       replace HB := Aside0.mk (below_step bz hb)
       (try clear hb)
       (try clear hb2)
       (try clear hk)
       (try clear hi)
       refine hK.out _ _ ⟨(blk_cell BK255.out 0).trans rfl, (blk_cell BK255.out 1).trans rfl⟩ (fun hHeld => ?_)
       clear hK K
       refine norm_ (a' := ?_) ?_ ?_
       rotate_left
       ·show Act.put _ (some 47) _ = _
        simp only [Act.put, List.setIfInBounds_toArray, List.set_cons_zero, List.set_cons_succ, i64_w, i32_w]
        rfl
       refine pure_ (i := 8) (N := some 39) (v := ?_) (a' := ?_) #[true, true, true, true, true, true, true, true, true, false, false, true, false, false] rfl rfl (any_of HT_.out (by kernel_rfl)) (fun _ _ _ h => h) (Or.inl ⟨by rfl, ?_⟩) ?_ ?_
       rotate_left
       ·intro w'
        go_simp
        with_reducible rfl
       rotate_left
       ·simp only [Act.put, List.setIfInBounds_toArray, List.set_cons_zero, List.set_cons_succ, i64_w, i32_w]
        rfl
       refine pure_ (i := 9) (N := some 48) (v := ?_) (a' := ?_) #[true, true, true, true, true, true, true, true, true, true, false, true, false, false] rfl rfl (any_of HT_.out (by kernel_rfl)) (fun _ _ _ h => h) (Or.inl ⟨by rfl, ?_⟩) ?_ ?_
       rotate_left
       ·intro w'
        go_simp
        with_reducible rfl
       rotate_left
       ·simp only [Act.put, List.setIfInBounds_toArray, List.set_cons_zero, List.set_cons_succ, i64_w, i32_w]
        rfl
       refine pure_ (i := 10) (N := some 49) (v := ?_) (a' := ?_) #[true, true, true, true, true, true, true, true, true, true, true, true, false, false] rfl rfl (any_of HT_.out (by kernel_rfl)) (fun _ _ _ h => h) (Or.inl ⟨by rfl, ?_⟩) ?_ ?_
       rotate_left
       ·intro w'
        go_simp
        with_reducible rfl
       rotate_left
       ·simp only [Act.put, List.setIfInBounds_toArray, List.set_cons_zero, List.set_cons_succ, i64_w, i32_w]
        rfl
       exact norm_ (by simp only [putAll, Act.put, List.setIfInBounds_toArray, List.set_cons_zero, List.set_cons_succ]) (hCont (gb266) _ ⟨hHeld, bk, bk, bk, bk, bk, GW266.out, GE266.out, NB255_266.out, NB266_255.out, NB256_266.out, NB266_256.out, NB260_266.out, NB266_260.out, NB262_266.out, NB266_262.out, bz⟩)
     rintro gb266 w44 ⟨hS_, h0_, h1_, h2_, h3_, h4_, h5_, h6_, h7_, h8_, h9_, h10_, h11_, h12_, h13_, h14_, h15_⟩
     have n0_ : Aside0 (w44.heap[gb255]? = some (.cells #[.string a0_0, .int .i64 a0_1] 28 (0, 0))) := ⟨h0_⟩
     have n1_ : Aside0 (w44.heap[gb256]? = some (.cells #[.string (⟨#[]⟩ : ByteArray), .int .i64 0] 28 (0, 0))) := ⟨h1_⟩
     have n2_ : Aside0 (w44.heap[gb260]? = some (.cells #[.string t257, .int .i64 t258] 28 (0, 0))) := ⟨h2_⟩
     have n3_ : Aside0 (w44.heap[gb262]? = some (.cells #[.string (⟨#[49]⟩ : ByteArray), .int .i64 (wrap64 ((wrap64 (a0_1 - a1)) + 1))] 28 (0, 0))) := ⟨h3_⟩
     have n4_ : Aside0 (w44.heap[gb266]? = some (.cells #[.string (⟨#[]⟩ : ByteArray), .int .i64 0] 28 (0, 0))) := ⟨h4_⟩
     have n5_ : Aside0 (w.heap.size ≤ gb266) := ⟨h5_⟩
     have n6_ : Aside0 (w.heap.size ≤ gb266) := ⟨h6_⟩
     have n7_ : Aside0 (gb255 ≠ gb266) := ⟨h7_⟩
     have n8_ : Aside0 (gb266 ≠ gb255) := ⟨h8_⟩
     have n9_ : Aside0 (gb256 ≠ gb266) := ⟨h9_⟩
     have n10_ : Aside0 (gb266 ≠ gb256) := ⟨h10_⟩
     have n11_ : Aside0 (gb260 ≠ gb266) := ⟨h11_⟩
     have n12_ : Aside0 (gb266 ≠ gb260) := ⟨h12_⟩
     have n13_ : Aside0 (gb262 ≠ gb266) := ⟨h13_⟩
     have n14_ : Aside0 (gb266 ≠ gb262) := ⟨h14_⟩
     have n15_ : Aside0 (Below w.heap.size w w44) := ⟨h15_⟩
     clear BK255
     clear BK256
     clear BK260
     clear BK262
     clear HB
     clear h0_ h1_ h2_ h3_ h4_ h5_ h6_ h7_ h8_ h9_ h10_ h11_ h12_ h13_ h14_ h15_
     have BK255 := n0_
     have BK256 := n1_
     have BK260 := n2_
     have BK262 := n3_
     have BK266 := n4_
     have GW266 := n5_
     have GE266 := n6_
     have NB255_266 := n7_
     have NB266_255 := n8_
     have NB256_266 := n9_
     have NB266_256 := n10_
     have NB260_266 := n11_
     have NB266_260 := n12_
     have NB262_266 := n13_
     have NB266_262 := n14_
     have HB := n15_
     clear n0_ n1_ n2_ n3_ n4_ n5_ n6_ n7_ n8_ n9_ n10_ n11_ n12_ n13_ n14_ n15_
     have hHeld : w44.cell? ⟨gb255, 0, none⟩ = some (.string a0_0) ∧ w44.cell? ⟨gb255, 1, none⟩ = some (.int .i64 a0_1) := hS_
     refine norm_ (a' := ?_) ?_ ?_
     rotate_left
     ·simp only [putAll, Act.put, List.setIfInBounds_toArray, List.set_cons_zero, List.set_cons_succ]
      rfl
     refine one_ (i := 12) (N := none) #[true, true, true, true, true, true, true, true, true, true, true, true, true, false] rfl rfl (one_of HT_.out (by kernel_rfl)) (by decide) (fun K hK => ?_)
     have hs45 : w44.cell? ⟨gb266, 0, none⟩ = some (.string (⟨#[]⟩ : ByteArray)) := (blk_cell BK266.out 0).trans rfl
     have hfs45 := blk_frozen BK266.out 0
     have hns45_0 := NB255_266.out
     have hns45_1 := NB256_266.out
     have hns45_2 := NB260_266.out
     have hns45_3 := NB262_266.out
     have hms45_0 := NB266_255.out
     have hms45_1 := NB266_256.out
     have hms45_2 := NB266_260.out
     have hms45_3 := NB266_262.out
     have hs46 : w44.cell? ⟨gb266, 1, none⟩ = some (.int .i64 0) := (blk_cell BK266.out 1).trans rfl
     have hfs46 := blk_frozen BK266.out 1
     have hns46_0 := NB255_266.out
     have hns46_1 := NB256_266.out
     have hns46_2 := NB260_266.out
     have hns46_3 := NB262_266.out
     have hms46_0 := NB266_255.out
     have hms46_1 := NB266_256.out
     have hms46_2 := NB266_260.out
     have hms46_3 := NB266_262.out
     refine skip_ (w1 := ?_) (by rfl) rfl ?_ ?_
     rotate_left
     ·go_simp
      rfl
     refine hK.out _ _ ⟨((cell_far (p := ⟨gb266, _, none⟩) NB255_266.out _).trans (((cell_far (p := ⟨gb266, _, none⟩) NB255_266.out _).trans (hHeld.1)))), ((cell_far (p := ⟨gb266, _, none⟩) NB255_266.out _).trans (((cell_far (p := ⟨gb266, _, none⟩) NB255_266.out _).trans (hHeld.2))))⟩ (fun hHeld => ?_)
     clear hK K
     refine pure_ (i := 13) (N := some 12) (v := ?_) (a' := ?_) #[true, true, true, true, true, true, true, true, true, true, true, true, true, true] rfl rfl (any_of HT_.out (by kernel_rfl)) (fun _ _ _ h => h) (Or.inl ⟨by rfl, ?_⟩) ?_ ?_
     rotate_left
     ·intro w'
      go_simp
      with_reducible rfl
     rotate_left
     ·simp only [Act.put, List.setIfInBounds_toArray, List.set_cons_zero, List.set_cons_succ, i64_w, i32_w]
      rfl
     refine done_ (done_of HT_.out (by kernel_rfl)) ?_
     have hnb47 := NB266_255.out
     have hnc47 := NB255_266.out
     have hnb48 := NB266_256.out
     have hnc48 := NB256_266.out
     have hnb49 := NB266_260.out
     have hnc49 := NB260_266.out
     have hnb50 := NB266_262.out
     have hnc50 := NB262_266.out
     obtain ⟨hcz51_0, hcz51_1, hfz51_0, hfz51_1⟩ := cz2 (W := w44) BK266
     obtain ⟨hcz52_0, hcz52_1, hfz52_0, hfz52_1⟩ := cz2 (W := w44) BK262
     try go_wp2_with (first | ((with_reducible refine gate_callee (f := 23) rfl ?_); refine goesL_ (some 53) rfl rfl Tryd.func23 (by kernel_rfl) rfl #[.agg #[.string t263, .int .i64 t264], .agg #[.string (⟨#[49]⟩ : ByteArray), .int .i64 (wrap64 ((wrap64 (a0_1 - a1)) + 1))]] rfl lz ?_; (with_reducible refine (bigdec_Add.calls k t263 t264 (⟨#[49]⟩ : ByteArray) (wrap64 ((wrap64 (a0_1 - a1)) + 1)) t267 t268 t269 _ A31.out).mono ?_); rintro e w53 ⟨rfl, hb⟩; refine ⟨_, rfl, ?_⟩; replace BK255 := kN (g := gb255) (cs := #[.string a0_0, .int .i64 a0_1]) hb bk; replace BK256 := kN (g := gb256) (cs := #[.string (⟨#[]⟩ : ByteArray), .int .i64 0]) hb bk; replace BK260 := kN (g := gb260) (cs := #[.string t257, .int .i64 t258]) hb bk; replace BK262 := kN (g := gb262) (cs := #[.string (⟨#[49]⟩ : ByteArray), .int .i64 (wrap64 ((wrap64 (a0_1 - a1)) + 1))]) hb bk; replace BK266 := kN (g := gb266) (cs := #[.string t263, .int .i64 t264]) hb bk; replace HB := bN bz hb; (try clear hb); (try clear hb2); (try clear hk); (try clear hi)) | ((with_reducible refine gate_dst (N := 13) rfl ?_); refine box_event rfl (N := 13) rfl (cs := #[.string (⟨#[]⟩ : ByteArray), .int .i64 0]) (t := 28) gz ?_; intro gb270 hg w54 hbox hb; have GE270 := gN bz hg; have NB255_270 := lN (g := gb255) (cs := #[.string a0_0, .int .i64 a0_1]) hg bk; have NB270_255 := rN (g := gb255) (cs := #[.string a0_0, .int .i64 a0_1]) hg bk; have NB256_270 := lN (g := gb256) (cs := #[.string (⟨#[]⟩ : ByteArray), .int .i64 0]) hg bk; have NB270_256 := rN (g := gb256) (cs := #[.string (⟨#[]⟩ : ByteArray), .int .i64 0]) hg bk; have NB260_270 := lN (g := gb260) (cs := #[.string t257, .int .i64 t258]) hg bk; have NB270_260 := rN (g := gb260) (cs := #[.string t257, .int .i64 t258]) hg bk; have NB262_270 := lN (g := gb262) (cs := #[.string (⟨#[49]⟩ : ByteArray), .int .i64 (wrap64 ((wrap64 (a0_1 - a1)) + 1))]) hg bk; have NB270_262 := rN (g := gb262) (cs := #[.string (⟨#[49]⟩ : ByteArray), .int .i64 (wrap64 ((wrap64 (a0_1 - a1)) + 1))]) hg bk; have NB266_270 := lN (g := gb266) (cs := #[.string t263, .int .i64 t264]) hg bk; have NB270_266 := rN (g := gb266) (cs := #[.string t263, .int .i64 t264]) hg bk; replace BK255 := kN (g := gb255) (cs := #[.string a0_0, .int .i64 a0_1]) hb bk; replace BK256 := kN (g := gb256) (cs := #[.string (⟨#[]⟩ : ByteArray), .int .i64 0]) hb bk; replace BK260 := kN (g := gb260) (cs := #[.string t257, .int .i64 t258]) hb bk; replace BK262 := kN (g := gb262) (cs := #[.string (⟨#[49]⟩ : ByteArray), .int .i64 (wrap64 ((wrap64 (a0_1 - a1)) + 1))]) hb bk; replace BK266 := kN (g := gb266) (cs := #[.string t263, .int .i64 t264]) hb bk; have BK270 := Aside0.mk hbox; replace HB := bN bz hb; clear hb hbox hg; have hnb55 := NB270_255.out; have hnc55 := NB255_270.out; have hnb56 := NB270_256.out; have hnc56 := NB256_270.out; have hnb57 := NB270_260.out; have hnc57 := NB260_270.out; have hnb58 := NB270_262.out; have hnc58 := NB262_270.out; have hnb59 := NB270_266.out; have hnc59 := NB266_270.out; obtain ⟨hcz60_0, hcz60_1, hfz60_0, hfz60_1⟩ := cz2 (W := w54) BK270; obtain ⟨hcz61_0, hcz61_1, hfz61_0, hfz61_1⟩ := cz2 (W := w54) BK266))
     go_loopg [59] k (fun kq v59 w' => ∃ (x59_1 : Int) (x257000_1 : ByteArray) (x257001_1 : Int), v59 = .int .i64 x59_1 ∧ Aside0 (short_best.l0 kq x59_1 a2_0 a2_1 a2_2 a2_3 a2_4 t263 t264 t267 t268 = some (r1, r2, r3)) ∧ Aside0 (kq ≤ k) ∧ Aside0 (w'.heap[gb255]? = some (.cells #[.string a0_0, .int .i64 a0_1] 28 (0, 0))) ∧ Aside0 (w'.heap[gb256]? = some (.cells #[.string x257000_1, .int .i64 x257001_1] 28 (0, 0))) ∧ Aside0 (w'.heap[gb260]? = some (.cells #[.string t257, .int .i64 t258] 28 (0, 0))) ∧ Aside0 (w'.heap[gb262]? = some (.cells #[.string (⟨#[49]⟩ : ByteArray), .int .i64 (wrap64 ((wrap64 (a0_1 - a1)) + 1))] 28 (0, 0))) ∧ Aside0 (w'.heap[gb266]? = some (.cells #[.string t263, .int .i64 t264] 28 (0, 0))) ∧ Aside0 (w'.heap[gb270]? = some (.cells #[.string t267, .int .i64 t268] 28 (0, 0))) ∧ Aside0 (Below w.heap.size w w'))
     case atStart => exact ⟨(0), ((⟨#[]⟩ : ByteArray)), (0), rz, H', ⟨Nat.le_refl _⟩, ⟨bk⟩, ⟨bk⟩, ⟨bk⟩, ⟨bk⟩, ⟨bk⟩, ⟨bk⟩, ⟨bz⟩⟩
     case round =>
      clear H'
      try clear c8
      try clear c8b0
      try clear c22
      try clear c28
      try clear c28b0
      try clear c28b1
      try clear c29
      try clear c29b0
      try clear c29b1
      try clear hcz10_0 hcz10_1 hfz10_0 hfz10_1
      try clear hcz11_0 hcz11_1 hfz11_0 hfz11_1
      try clear hcz15_0 hcz15_1 hfz15_0 hfz15_1
      try clear hcz20_0 hcz20_1 hfz20_0 hfz20_1
      try clear hcz25_0 hcz25_1 hfz25_0 hfz25_1
      try clear hcz27_0 hcz27_1 hfz27_0 hfz27_1
      try clear hcz34_0 hcz34_1 hfz34_0 hfz34_1
      try clear hcz39_0 hcz39_1 hfz39_0 hfz39_1
      try clear hcz51_0 hcz51_1 hfz51_0 hfz51_1
      try clear hcz52_0 hcz52_1 hfz52_0 hfz52_1
      try clear hcz60_0 hcz60_1 hfz60_0 hfz60_1
      try clear hcz61_0 hcz61_1 hfz61_0 hfz61_1
      try clear hcz7_0 hcz7_1 hfz7_0 hfz7_1
      obtain ⟨x59_1, x257000_1, x257001_1, rfl, HA, HK1, BK255, BK256, BK260, BK262, BK266, BK270, HB⟩ := hrel
      cases gk with
      | zero => exact absurd HA.out (by simp [short_best.l0])
      | succ k1 =>
       have H := HA.out
       clear HA
       simp only [short_best.l0] at H
       by_cases c62 : x59_1 < 2
       ·rw [if_pos c62] at H
        have c62b0 := decide_eq_true c62
        clear c62
        try rw [c62b0]
        by_cases c63 : x59_1 = 0
        ·rw [if_pos c63] at H
         have c63b0 : (x59_1 == 0) = true := beq_iff_eq.mpr c63
         have hix_ : ∀ W : World, (Instr.index 85 (.agg #[.string t263, .int .i64 t264, .string t267, .int .i64 t268]) (.int .i64 x59_1)).run Tryd.prog W = .ok (.agg #[.string t263, .int .i64 t264]) W := by intro W; rw [c63]; kernel_rfl
         have c63b1 : (x59_1 != 0) = false := bne_eq_false_iff_eq.mpr c63
         clear c63
         replace H := bs H
         obtain ⟨t273, A64, H⟩ := H
         go_upto_if 64 with (first | ((with_reducible refine gate_dst (N := 16) rfl ?_); refine box_event rfl (N := 16) rfl (cs := #[.string (⟨#[]⟩ : ByteArray), .int .i64 0]) (t := 28) gz ?_; intro gb272 hg w65 hbox hb; have GE272 := gN bz hg; have NB255_272 := lN (g := gb255) (cs := #[.string a0_0, .int .i64 a0_1]) hg bk; have NB272_255 := rN (g := gb255) (cs := #[.string a0_0, .int .i64 a0_1]) hg bk; have NB256_272 := lN (g := gb256) (cs := #[.string x257000_1, .int .i64 x257001_1]) hg bk; have NB272_256 := rN (g := gb256) (cs := #[.string x257000_1, .int .i64 x257001_1]) hg bk; have NB260_272 := lN (g := gb260) (cs := #[.string t257, .int .i64 t258]) hg bk; have NB272_260 := rN (g := gb260) (cs := #[.string t257, .int .i64 t258]) hg bk; have NB262_272 := lN (g := gb262) (cs := #[.string (⟨#[49]⟩ : ByteArray), .int .i64 (wrap64 ((wrap64 (a0_1 - a1)) + 1))]) hg bk; have NB272_262 := rN (g := gb262) (cs := #[.string (⟨#[49]⟩ : ByteArray), .int .i64 (wrap64 ((wrap64 (a0_1 - a1)) + 1))]) hg bk; have NB266_272 := lN (g := gb266) (cs := #[.string t263, .int .i64 t264]) hg bk; have NB272_266 := rN (g := gb266) (cs := #[.string t263, .int .i64 t264]) hg bk; have NB270_272 := lN (g := gb270) (cs := #[.string t267, .int .i64 t268]) hg bk; have NB272_270 := rN (g := gb270) (cs := #[.string t267, .int .i64 t268]) hg bk; replace BK255 := kN (g := gb255) (cs := #[.string a0_0, .int .i64 a0_1]) hb bk; replace BK256 := kN (g := gb256) (cs := #[.string x257000_1, .int .i64 x257001_1]) hb bk; replace BK260 := kN (g := gb260) (cs := #[.string t257, .int .i64 t258]) hb bk; replace BK262 := kN (g := gb262) (cs := #[.string (⟨#[49]⟩ : ByteArray), .int .i64 (wrap64 ((wrap64 (a0_1 - a1)) + 1))]) hb bk; replace BK266 := kN (g := gb266) (cs := #[.string t263, .int .i64 t264]) hb bk; replace BK270 := kN (g := gb270) (cs := #[.string t267, .int .i64 t268]) hb bk; have BK272 := Aside0.mk hbox; replace HB := bN bz hb; clear hb hbox hg; have hnb66 := NB272_255.out; have hnc66 := NB255_272.out; have hnb67 := NB272_256.out; have hnc67 := NB256_272.out; have hnb68 := NB272_260.out; have hnc68 := NB260_272.out; have hnb69 := NB272_262.out; have hnc69 := NB262_272.out; have hnb70 := NB272_266.out; have hnc70 := NB266_272.out; have hnb71 := NB272_270.out; have hnc71 := NB270_272.out; obtain ⟨hcz72_0, hcz72_1, hfz72_0, hfz72_1⟩ := cz2 (W := w65) BK272) | (go_at_call 42; (with_reducible refine (short_span_in.calls k1 a2_0 a2_1 a2_2 a2_3 a2_4 t263 t264 t273 _ A64.out).mono ?_); rintro e w73 ⟨rfl, hb⟩; replace BK255 := kN (g := gb255) (cs := #[.string a0_0, .int .i64 a0_1]) hb bk; replace BK256 := kN (g := gb256) (cs := #[.string x257000_1, .int .i64 x257001_1]) hb bk; replace BK260 := kN (g := gb260) (cs := #[.string t257, .int .i64 t258]) hb bk; replace BK262 := kN (g := gb262) (cs := #[.string (⟨#[49]⟩ : ByteArray), .int .i64 (wrap64 ((wrap64 (a0_1 - a1)) + 1))]) hb bk; replace BK266 := kN (g := gb266) (cs := #[.string t263, .int .i64 t264]) hb bk; replace BK270 := kN (g := gb270) (cs := #[.string t267, .int .i64 t268]) hb bk; replace BK272 := kN (g := gb272) (cs := #[.string t263, .int .i64 t264]) hb bk; replace HB := bN bz hb; (try clear hb); (try clear hb2); (try clear hk); (try clear hi)))
         (try simp only [Act.put, List.setIfInBounds_toArray, List.set_cons_zero, List.set_cons_succ])
         by_cases c74 : t273 = true
         ·subst c74
          replace H := hT H
          simp only [Option.some.injEq, Prod.mk.injEq] at H
          obtain ⟨rfl, rfl, rfl⟩ := H
          have hnb75 := NB272_255.out
          have hnc75 := NB255_272.out
          have hnb76 := NB272_256.out
          have hnc76 := NB256_272.out
          have hnb77 := NB272_260.out
          have hnc77 := NB260_272.out
          have hnb78 := NB272_262.out
          have hnc78 := NB262_272.out
          have hnb79 := NB272_266.out
          have hnc79 := NB266_272.out
          have hnb80 := NB272_270.out
          have hnc80 := NB270_272.out
          obtain ⟨hcz81_0, hcz81_1, hfz81_0, hfz81_1⟩ := cz2 (W := w73) BK272
          have hnb82 := NB256_255.out
          have hnc82 := NB255_256.out
          have hnb83 := NB256_260.out
          have hnc83 := NB260_256.out
          have hnb84 := NB256_262.out
          have hnc84 := NB262_256.out
          have hnb85 := NB256_266.out
          have hnc85 := NB266_256.out
          have hnb86 := NB256_270.out
          have hnc86 := NB270_256.out
          obtain ⟨hcz87_0, hcz87_1, hfz87_0, hfz87_1⟩ := cz2 (W := w73) BK256
          go_wp2
          refine bodyPost_ret (results_ct rfl _ _ gb256 28 #[.string t263, .int .i64 t264] (0, 0) _ rfl bk Tryd.underlying28 rfl (by kernel_rfl)) rfl ?_
          exact ⟨ez, bz⟩
         ·replace c74 := Bool.eq_false_iff.mpr c74
          subst c74
          replace H := hF H
          have H' := Aside0.mk H
          clear H
          go_wp2
          go_roundg k1
          case measure => have := HK1.out; omega
          case rel => exact ⟨(wrap64 (x59_1 + 1)), (x257000_1), (x257001_1), rz, H', ⟨by have := HK1.out; omega⟩, ⟨bk⟩, ⟨bk⟩, ⟨bk⟩, ⟨bk⟩, ⟨bk⟩, ⟨bk⟩, ⟨bz⟩⟩
        ·rw [if_neg c63] at H
         obtain ⟨c63b0, c63b1⟩ := eF c63
         by_cases c88 : x59_1 = 1
         ·rw [if_pos c88] at H
          have c88b0 : (x59_1 == 1) = true := beq_iff_eq.mpr c88
          have hix_ : ∀ W : World, (Instr.index 85 (.agg #[.string t263, .int .i64 t264, .string t267, .int .i64 t268]) (.int .i64 x59_1)).run Tryd.prog W = .ok (.agg #[.string t267, .int .i64 t268]) W := by intro W; rw [c88]; kernel_rfl
          have c88b1 : (x59_1 != 1) = false := bne_eq_false_iff_eq.mpr c88
          clear c88
          replace H := bs H
          obtain ⟨t275, A89, H⟩ := H
          go_upto_if 64 with (first | ((with_reducible refine gate_dst (N := 16) rfl ?_); refine box_event rfl (N := 16) rfl (cs := #[.string (⟨#[]⟩ : ByteArray), .int .i64 0]) (t := 28) gz ?_; intro gb274 hg w90 hbox hb; have GE274 := gN bz hg; have NB255_274 := lN (g := gb255) (cs := #[.string a0_0, .int .i64 a0_1]) hg bk; have NB274_255 := rN (g := gb255) (cs := #[.string a0_0, .int .i64 a0_1]) hg bk; have NB256_274 := lN (g := gb256) (cs := #[.string x257000_1, .int .i64 x257001_1]) hg bk; have NB274_256 := rN (g := gb256) (cs := #[.string x257000_1, .int .i64 x257001_1]) hg bk; have NB260_274 := lN (g := gb260) (cs := #[.string t257, .int .i64 t258]) hg bk; have NB274_260 := rN (g := gb260) (cs := #[.string t257, .int .i64 t258]) hg bk; have NB262_274 := lN (g := gb262) (cs := #[.string (⟨#[49]⟩ : ByteArray), .int .i64 (wrap64 ((wrap64 (a0_1 - a1)) + 1))]) hg bk; have NB274_262 := rN (g := gb262) (cs := #[.string (⟨#[49]⟩ : ByteArray), .int .i64 (wrap64 ((wrap64 (a0_1 - a1)) + 1))]) hg bk; have NB266_274 := lN (g := gb266) (cs := #[.string t263, .int .i64 t264]) hg bk; have NB274_266 := rN (g := gb266) (cs := #[.string t263, .int .i64 t264]) hg bk; have NB270_274 := lN (g := gb270) (cs := #[.string t267, .int .i64 t268]) hg bk; have NB274_270 := rN (g := gb270) (cs := #[.string t267, .int .i64 t268]) hg bk; replace BK255 := kN (g := gb255) (cs := #[.string a0_0, .int .i64 a0_1]) hb bk; replace BK256 := kN (g := gb256) (cs := #[.string x257000_1, .int .i64 x257001_1]) hb bk; replace BK260 := kN (g := gb260) (cs := #[.string t257, .int .i64 t258]) hb bk; replace BK262 := kN (g := gb262) (cs := #[.string (⟨#[49]⟩ : ByteArray), .int .i64 (wrap64 ((wrap64 (a0_1 - a1)) + 1))]) hb bk; replace BK266 := kN (g := gb266) (cs := #[.string t263, .int .i64 t264]) hb bk; replace BK270 := kN (g := gb270) (cs := #[.string t267, .int .i64 t268]) hb bk; have BK274 := Aside0.mk hbox; replace HB := bN bz hb; clear hb hbox hg; have hnb91 := NB274_255.out; have hnc91 := NB255_274.out; have hnb92 := NB274_256.out; have hnc92 := NB256_274.out; have hnb93 := NB274_260.out; have hnc93 := NB260_274.out; have hnb94 := NB274_262.out; have hnc94 := NB262_274.out; have hnb95 := NB274_266.out; have hnc95 := NB266_274.out; have hnb96 := NB274_270.out; have hnc96 := NB270_274.out; obtain ⟨hcz97_0, hcz97_1, hfz97_0, hfz97_1⟩ := cz2 (W := w90) BK274) | (go_at_call 42; (with_reducible refine (short_span_in.calls k1 a2_0 a2_1 a2_2 a2_3 a2_4 t267 t268 t275 _ A89.out).mono ?_); rintro e w98 ⟨rfl, hb⟩; replace BK255 := kN (g := gb255) (cs := #[.string a0_0, .int .i64 a0_1]) hb bk; replace BK256 := kN (g := gb256) (cs := #[.string x257000_1, .int .i64 x257001_1]) hb bk; replace BK260 := kN (g := gb260) (cs := #[.string t257, .int .i64 t258]) hb bk; replace BK262 := kN (g := gb262) (cs := #[.string (⟨#[49]⟩ : ByteArray), .int .i64 (wrap64 ((wrap64 (a0_1 - a1)) + 1))]) hb bk; replace BK266 := kN (g := gb266) (cs := #[.string t263, .int .i64 t264]) hb bk; replace BK270 := kN (g := gb270) (cs := #[.string t267, .int .i64 t268]) hb bk; replace BK274 := kN (g := gb274) (cs := #[.string t267, .int .i64 t268]) hb bk; replace HB := bN bz hb; (try clear hb); (try clear hb2); (try clear hk); (try clear hi)))
          (try simp only [Act.put, List.setIfInBounds_toArray, List.set_cons_zero, List.set_cons_succ])
          by_cases c99 : t275 = true
          ·subst c99
           replace H := hT H
           simp only [Option.some.injEq, Prod.mk.injEq] at H
           obtain ⟨rfl, rfl, rfl⟩ := H
           have hnb100 := NB274_255.out
           have hnc100 := NB255_274.out
           have hnb101 := NB274_256.out
           have hnc101 := NB256_274.out
           have hnb102 := NB274_260.out
           have hnc102 := NB260_274.out
           have hnb103 := NB274_262.out
           have hnc103 := NB262_274.out
           have hnb104 := NB274_266.out
           have hnc104 := NB266_274.out
           have hnb105 := NB274_270.out
           have hnc105 := NB270_274.out
           obtain ⟨hcz106_0, hcz106_1, hfz106_0, hfz106_1⟩ := cz2 (W := w98) BK274
           have hnb107 := NB256_255.out
           have hnc107 := NB255_256.out
           have hnb108 := NB256_260.out
           have hnc108 := NB260_256.out
           have hnb109 := NB256_262.out
           have hnc109 := NB262_256.out
           have hnb110 := NB256_266.out
           have hnc110 := NB266_256.out
           have hnb111 := NB256_270.out
           have hnc111 := NB270_256.out
           obtain ⟨hcz112_0, hcz112_1, hfz112_0, hfz112_1⟩ := cz2 (W := w98) BK256
           go_wp2
           refine bodyPost_ret (results_ct rfl _ _ gb256 28 #[.string t267, .int .i64 t268] (0, 0) _ rfl bk Tryd.underlying28 rfl (by kernel_rfl)) rfl ?_
           exact ⟨ez, bz⟩
          ·replace c99 := Bool.eq_false_iff.mpr c99
           subst c99
           replace H := hF H
           have H' := Aside0.mk H
           clear H
           go_wp2
           go_roundg k1
           case measure => have := HK1.out; omega
           case rel => exact ⟨(wrap64 (x59_1 + 1)), (x257000_1), (x257001_1), rz, H', ⟨by have := HK1.out; omega⟩, ⟨bk⟩, ⟨bk⟩, ⟨bk⟩, ⟨bk⟩, ⟨bk⟩, ⟨bk⟩, ⟨bz⟩⟩
         ·rw [if_neg c88] at H
          exact absurd H (by simp)
       ·rw [if_neg c62] at H
        have c62b0 := decide_eq_false c62
        clear c62
        try rw [c62b0]
        simp only [Option.some.injEq, Prod.mk.injEq] at H
        obtain ⟨rfl, rfl, rfl⟩ := H
        have hnb113 := NB256_255.out
        have hnc113 := NB255_256.out
        have hnb114 := NB256_260.out
        have hnc114 := NB260_256.out
        have hnb115 := NB256_262.out
        have hnc115 := NB262_256.out
        have hnb116 := NB256_266.out
        have hnc116 := NB266_256.out
        have hnb117 := NB256_270.out
        have hnc117 := NB270_256.out
        obtain ⟨hcz118_0, hcz118_1, hfz118_0, hfz118_1⟩ := cz2 (W := wr) BK256
        go_wp2
        refine bodyPost_ret (results_ct rfl _ _ gb256 28 #[.string (⟨#[]⟩ : ByteArray), .int .i64 0] (0, 0) _ rfl bk Tryd.underlying28 rfl (by kernel_rfl)) rfl ?_
        exact ⟨ez, bz⟩
    ·rw [if_neg c29] at H
     exact absurd H (by simp)
   ·rw [if_neg c28] at H
    exact absurd H (by simp)
end Go.Proofs.YtmeapdchnnpceaaDoor.Fn
end
section
namespace Go.Proofs.YtmeapdchnnpceaaDoor.Fn
open Go.RowKit Go.Proofs.YtmeapdchnnpceaaDoorW.PrintWords Go.Proofs.YtmeapdchnnpceaaDoorW.PrintLast Go.Proofs.YtmeapdchnnpceaaDoorW.PrintMore
attribute [local go_sem] min2_int min_two
set_option linter.unusedVariables false
set_option linter.unusedSimpArgs false
theorem eqA28 (d : Nat) (w : World) (x0 y0 : ByteArray) (x1 y1 : Int) :
  (Op.equalIn (d + 2) 28 (.agg #[.string x0, .int .i64 x1]) (.agg #[.string y0, .int .i64 y1])).run Tryd.prog w = .ok (x0.toList == y0.toList && (x1 == y1)) w := by
 refine eqA_of Tryd.underlying28 (by kernel_rfl) ?_
 refine eqf_cons (by rfl) (by go_simp; rfl) (by go_simp; rfl) (by go_simp) ?_
 exact eqf_last (by rfl) (by go_simp; rfl) (by go_simp; rfl) (by go_simp)
end Go.Proofs.YtmeapdchnnpceaaDoor.Fn
end
section
namespace Go.Proofs.YtmeapdchnnpceaaDoor.Fn
open Go.RowKit Go.Proofs.YtmeapdchnnpceaaDoorW.PrintWords Go.Proofs.YtmeapdchnnpceaaDoorW.PrintLast Go.Proofs.YtmeapdchnnpceaaDoorW.PrintMore
attribute [local go_sem] min2_int min_two
set_option linter.unusedVariables false
set_option linter.unusedSimpArgs false
def platenlaw05_finite.f (a0 : Int) (a1 : Int) : Option (Int) := if a1 = 32 then (if (Go.bits .and .u64 a0 2147483647) ≥ 2139095040 then (some (IntKind.u64.wrap ((Go.bits .and .u64 a0 2147483647) - 2139095040))) else (some (Go.bits .and .u64 a0 2147483647))) else (if (Go.bits .and .u64 a0 9223372036854775807) ≥ 9218868437227405312 then (some (IntKind.u64.wrap ((Go.bits .and .u64 a0 9223372036854775807) - 9218868437227405312))) else (some (Go.bits .and .u64 a0 9223372036854775807)))
set_option maxHeartbeats 8000000 in
set_option maxRecDepth 100000 in
theorem platenlaw05_finite.calls (a0 : Int) (a1 : Int) (r : Int) (w : World) (h : platenlaw05_finite.f a0 a1 = some r) :
  Calls Tryd.prog 20 #[.int .u64 a0, .int .i64 a1] w fun e w' => e = .returned (.int .u64 r) ∧ Drawn0 w w' := by
 have H : (if a1 = 32 then (if (Go.bits .and .u64 a0 2147483647) ≥ 2139095040 then (some (IntKind.u64.wrap ((Go.bits .and .u64 a0 2147483647) - 2139095040))) else (some (Go.bits .and .u64 a0 2147483647))) else (if (Go.bits .and .u64 a0 9223372036854775807) ≥ 9218868437227405312 then (some (IntKind.u64.wrap ((Go.bits .and .u64 a0 9223372036854775807) - 9218868437227405312))) else (some (Go.bits .and .u64 a0 9223372036854775807)))) = some r := h
 clear h
 by_cases c3 : a1 = 32
 ·rw [if_pos c3] at H
  obtain ⟨c3b0, c3b1⟩ := eT c3
  clear c3
  by_cases c4 : (Go.bits .and .u64 a0 2147483647) ≥ 2139095040
  ·rw [if_pos c4] at H
   have c4b0 : decide (2139095040 ≤ (Go.bits .and .u64 a0 2147483647)) = true := decide_eq_true c4
   clear c4
   obtain rfl := Option.some.inj H
   go_enter Tryd.func20, Tryd.ntmps20
   go_wp2
   go_ret
   exact ⟨by first | rfl | (simp; done) | (simp [*]; done), by repeat (first | exact Drawn0.refl _ | apply Drawn0.step)⟩
  ·rw [if_neg c4] at H
   have c4b0 : decide (2139095040 ≤ (Go.bits .and .u64 a0 2147483647)) = false := decide_eq_false c4
   clear c4
   obtain rfl := Option.some.inj H
   go_enter Tryd.func20, Tryd.ntmps20
   go_wp2
   go_ret
   exact ⟨by first | rfl | (simp; done) | (simp [*]; done), by repeat (first | exact Drawn0.refl _ | apply Drawn0.step)⟩
 ·rw [if_neg c3] at H
  obtain ⟨c3b0, c3b1⟩ := eF c3
  by_cases c5 : (Go.bits .and .u64 a0 9223372036854775807) ≥ 9218868437227405312
  ·rw [if_pos c5] at H
   have c5b0 : decide (9218868437227405312 ≤ (Go.bits .and .u64 a0 9223372036854775807)) = true := decide_eq_true c5
   clear c5
   obtain rfl := Option.some.inj H
   go_enter Tryd.func20, Tryd.ntmps20
   go_wp2
   go_ret
   exact ⟨by first | rfl | (simp; done) | (simp [*]; done), by repeat (first | exact Drawn0.refl _ | apply Drawn0.step)⟩
  ·rw [if_neg c5] at H
   have c5b0 : decide (9218868437227405312 ≤ (Go.bits .and .u64 a0 9223372036854775807)) = false := decide_eq_false c5
   clear c5
   obtain rfl := Option.some.inj H
   go_enter Tryd.func20, Tryd.ntmps20
   go_wp2
   go_ret
   exact ⟨by first | rfl | (simp; done) | (simp [*]; done), by repeat (first | exact Drawn0.refl _ | apply Drawn0.step)⟩
end Go.Proofs.YtmeapdchnnpceaaDoor.Fn
end
section
namespace Go.Proofs.YtmeapdchnnpceaaDoor.Fn
open Go.RowKit Go.Proofs.YtmeapdchnnpceaaDoorW.PrintWords Go.Proofs.YtmeapdchnnpceaaDoorW.PrintLast Go.Proofs.YtmeapdchnnpceaaDoorW.PrintMore
attribute [local go_sem] min2_int min_two
set_option linter.unusedVariables false
set_option linter.unusedSimpArgs false
def platenlaw05_sized.f (a0 : Bool) : Option (Int) := if a0 = true then (some 64) else (some 32)
set_option maxHeartbeats 8000000 in
set_option maxRecDepth 100000 in
theorem platenlaw05_sized.calls (a0 : Bool) (r : Int) (w : World) (h : platenlaw05_sized.f a0 = some r) :
  Calls Tryd.prog 21 #[.bool a0] w fun e w' => e = .returned (.int .i64 r) ∧ Drawn0 w w' := by
 have H : (if a0 = true then (some 64) else (some 32)) = some r := h
 clear h
 by_cases c2 : a0 = true
 ·subst c2
  replace H := hT H
  obtain rfl := Option.some.inj H
  go_enter Tryd.func21, Tryd.ntmps21
  go_wp2
  go_ret
  exact ⟨by first | rfl | (simp; done) | (simp [*]; done), by repeat (first | exact Drawn0.refl _ | apply Drawn0.step)⟩
 ·replace c2 := Bool.eq_false_iff.mpr c2
  subst c2
  replace H := hF H
  obtain rfl := Option.some.inj H
  go_enter Tryd.func21, Tryd.ntmps21
  go_wp2
  go_ret
  exact ⟨by first | rfl | (simp; done) | (simp [*]; done), by repeat (first | exact Drawn0.refl _ | apply Drawn0.step)⟩
end Go.Proofs.YtmeapdchnnpceaaDoor.Fn
end
