/- The law ShortDigits: the walks through its functions and its plain law (part 4). Own texts and the kit's printed words for this seat, without what the law does not use: put together by merge.py (of this work). -/
import Derived.Test.YtmeapdchnnpceaaDoorMShortDigits3
section
namespace Go.Proofs.YtmeapdchnnpceaaDoor.Fn
open Go.RowKit Go.Proofs.YtmeapdchnnpceaaDoorW.PrintWords Go.Proofs.YtmeapdchnnpceaaDoorW.PrintLast Go.Proofs.YtmeapdchnnpceaaDoorW.PrintMore
attribute [local go_sem] min2_int min_two
set_option linter.unusedVariables false
set_option linter.unusedSimpArgs false
mutual
def platenref05_Read.j0 : Nat → Int → Int → Int → Bool → ByteArray → Int → Option (Int × Int)
 | 0, _, _, _, _, _, _ => none
 | k + 1, x8, x10, x11, x52, x376000, x376001 => if x52 = true then (some (0, 0)) else (if x376001 > 400 then (some (x11, 0)) else ((platenref05_whole.f k x376000 0).bind fun t381 => ((platenref05_whole.f k (⟨#[49]⟩ : ByteArray) 0).bind fun t384 => (if (x376000.size : Int) < x376001 then ((platenref05_whole.f k x376000 (wrap64 (x376001 - (x376000.size : Int)))).bind fun t387 => (platenref05_Read.j1 k x8 x10 x11 t387 t384)) else ((platenref05_whole.f k (⟨#[49]⟩ : ByteArray) (wrap64 ((x376000.size : Int) - x376001))).bind fun t390 => (platenref05_Read.j1 k x8 x10 x11 t381 t390))))))
def platenref05_Read.j1 : Nat → Int → Int → Int → List Int → List Int → Option (Int × Int)
 | 0, _, _, _, _, _ => none
 | k + 1, x8, x10, x11, x12, x13 => (some (([] : List Int) : List Int)).bind fun y393 => (if y393.length + x13.length < 140737488355328 then (platenref05_Read.l0 k x8 x10 x11 x12 x13 (y393 ++ x13) 0) else (none))
def platenref05_Read.l0 : Nat → Int → Int → Int → List Int → List Int → List Int → Int → Option (Int × Int)
 | 0, _, _, _, _, _, _, _ => none
 | k + 1, x8, x10, x11, x12, x13, x14, x15 => if x15 ≤ x8 then ((platenref04_Times.f k x14 2).bind fun t399 => (platenref05_Read.l0 k x8 x10 x11 x12 x13 t399 (wrap64 (x15 + 1)))) else (platenref05_Read.l1 k x8 x10 x11 x12 x13 x14 0)
def platenref05_Read.l1 : Nat → Int → Int → Int → List Int → List Int → List Int → Int → Option (Int × Int)
 | 0, _, _, _, _, _, _, _ => none
 | k + 1, x8, x10, x11, x12, x13, x14, x16 => (platenref05_less.f k x12 x14).bind fun t402 => (if t402 = true then (platenref05_Read.l2 k x8 x10 x11 x12 x13 x14 x16) else ((platenref04_Times.f k x13 2).bind fun t403 => ((platenref04_Times.f k x14 2).bind fun t406 => (platenref05_Read.l1 k x8 x10 x11 x12 t403 t406 (wrap64 (x16 + 1))))))
def platenref05_Read.j5 : Nat → Int → Int → Int → List Int → List Int → Int → Option (Int × Int)
 | 0, _, _, _, _, _, _ => none
 | k + 1, x8, x10, x11, x12, x13, x16 => (platenref05_divide.f k x12 x13 (wrap64 (x8 + 2))).bind fun bt413 => ((platenref04_Times.f k bt413.2 2).bind fun t417 => ((platenref05_less.f k x13 t417).bind fun t420 => (if t420 = true then (platenref05_Read.j6 k x8 x10 x11 x16 bt413.1 true) else ((platenref05_less.f k t417 x13).bind fun t421 => (if t421 = true then (platenref05_Read.j6 k x8 x10 x11 x16 bt413.1 false) else (platenref05_Read.j6 k x8 x10 x11 x16 bt413.1 ((Int.tmod bt413.1 2) == 1)))))))
def platenref05_Read.j6 : Nat → Int → Int → Int → Int → Int → Bool → Option (Int × Int)
 | 0, _, _, _, _, _, _ => none
 | k + 1, x8, x10, x11, x16, x18, x138 => if x138 = true then (platenref05_Read.j7 k x8 x10 x11 x16 (IntKind.u64.wrap (x18 + 1))) else (platenref05_Read.j7 k x8 x10 x11 x16 x18)
def platenref05_Read.j7 : Nat → Int → Int → Int → Int → Int → Option (Int × Int)
 | 0, _, _, _, _, _ => none
 | k + 1, x8, x10, x11, x16, x18 => (platenref05_pow.f k (wrap64 (x8 + 1))).bind fun t422 => (if x18 ≥ t422 then (platenref05_Read.j8 k x8 x10 x11 (wrap64 (x16 + 1)) (IntKind.u64.wrap (Int.tdiv x18 2))) else (platenref05_Read.j8 k x8 x10 x11 x16 x18))
def platenref05_Read.j8 : Nat → Int → Int → Int → Int → Int → Option (Int × Int)
 | 0, _, _, _, _, _ => none
 | k + 1, x8, x10, x11, x16, x18 => (platenref05_pow.f k x8).bind fun t423 => (if x18 < t423 then (some (x18, 0)) else ((platenref05_pow.f k x8).bind fun t424 => ((platenref05_pow.f k x8).bind fun t425 => (if (IntKind.u64.wrap ((IntKind.u64.wrap ((IntKind.u64.wrap ((IntKind.u64.wrap (wrap64 ((wrap64 (x16 - x10)) + 1))) * t424)) + x18)) - t425)) > x11 then (some (x11, 0)) else (some (IntKind.u64.wrap ((IntKind.u64.wrap ((IntKind.u64.wrap ((IntKind.u64.wrap (wrap64 ((wrap64 (x16 - x10)) + 1))) * t424)) + x18)) - t425), 0))))))
def platenref05_Read.l2 : Nat → Int → Int → Int → List Int → List Int → List Int → Int → Option (Int × Int)
 | 0, _, _, _, _, _, _, _ => none
 | k + 1, x8, x10, x11, x12, x13, x14, x16 => if x16 > x10 then ((platenref04_Times.f k x12 2).bind fun t409 => ((platenref05_less.f k t409 x14).bind fun t412 => (if t412 = true then (platenref05_Read.l2 k x8 x10 x11 t409 x13 x14 (wrap64 (x16 - 1))) else (platenref05_Read.j5 k x8 x10 x11 x12 x13 x16)))) else (platenref05_Read.j5 k x8 x10 x11 x12 x13 x16)
end
def platenref05_Read.f (k : Nat) (a0_0 : ByteArray) (a0_1 : Int) (a1 : Int) : Option (Int × Int) := (platenref05_Sized.f a1).bind fun t371 => (if t371 = true then ((platenref04_Norm.f k a0_0 a0_1).bind fun bt372 => (if bt372.2.2 = 0 then ((platenref05_Shape.f a1).bind fun bt376 => ((platenref05_pow.f k bt376.2.1).bind fun t379 => ((platenref05_pow.f k bt376.1).bind fun t380 => (if bt372.1.toList = ([] : List UInt8) then (platenref05_Read.j0 k bt376.1 bt376.2.2 (IntKind.u64.wrap ((IntKind.u64.wrap (t379 - 1)) * t380)) true bt372.1 bt372.2.1) else (platenref05_Read.j0 k bt376.1 bt376.2.2 (IntKind.u64.wrap ((IntKind.u64.wrap (t379 - 1)) * t380)) (decide (bt372.2.1 < (-400))) bt372.1 bt372.2.1))))) else (some (0, bt372.2.2)))) else (some (0, 1)))
set_option maxHeartbeats 8000000 in
set_option maxRecDepth 100000 in
theorem platenref05_Read.calls (k : Nat) (a0_0 : ByteArray) (a0_1 : Int) (a1 : Int) (r1 : Int) (r2 : Int) (w : World) (h : platenref05_Read.f k a0_0 a0_1 a1 = some (r1, r2)) :
  Calls Tryd.prog 17 #[.agg #[.string a0_0, .int .i64 a0_1], .int .i64 a1] w fun e w' => e = .returned (.tuple #[.int .u64 r1, .int .i64 r2]) ∧ Below w.heap.size w w' := by
 have hu28 := Tryd.underlying28
 have HB := Aside0.mk (Below.refl w.heap.size w)
 have H : ((platenref05_Sized.f a1).bind fun t371 => (if t371 = true then ((platenref04_Norm.f k a0_0 a0_1).bind fun bt372 => (if bt372.2.2 = 0 then ((platenref05_Shape.f a1).bind fun bt376 => ((platenref05_pow.f k bt376.2.1).bind fun t379 => ((platenref05_pow.f k bt376.1).bind fun t380 => (if bt372.1.toList = ([] : List UInt8) then (platenref05_Read.j0 k bt376.1 bt376.2.2 (IntKind.u64.wrap ((IntKind.u64.wrap (t379 - 1)) * t380)) true bt372.1 bt372.2.1) else (platenref05_Read.j0 k bt376.1 bt376.2.2 (IntKind.u64.wrap ((IntKind.u64.wrap (t379 - 1)) * t380)) (decide (bt372.2.1 < (-400))) bt372.1 bt372.2.1))))) else (some (0, bt372.2.2)))) else (some (0, 1)))) = some (r1, r2) := h
 clear h
 replace H := bs H
 obtain ⟨t371, A3, H⟩ := H
 go_enter Tryd.func17, Tryd.ntmps17
 go_upto_if 24 with (first | ((with_reducible refine gate_dst (N := 2) rfl ?_); refine box_event rfl (N := 2) rfl (cs := #[.string a0_0, .int .i64 a0_1]) (t := 28) gz ?_; intro gb370 hg w4 hbox hb; have GE370 := gN bz hg; have BK370 := Aside0.mk hbox; replace HB := bN bz hb; clear hb hbox hg) | ((with_reducible refine gate_callee (f := 29) rfl ?_); refine goesL_ (some 23) rfl rfl Tryd.func29 (by kernel_rfl) rfl #[.int .i64 a1] rfl lz ?_; (with_reducible refine (platenref05_Sized.calls a1 t371 _ A3.out).mono ?_); rintro e w' ⟨rfl, ⟨nd, rfl⟩⟩; refine ⟨_, rfl, ?_⟩))
 (try simp only [Act.put, List.setIfInBounds_toArray, List.set_cons_zero, List.set_cons_succ])
 by_cases c5 : t371 = true
 ·subst c5
  replace H := hT H
  replace H := bs H
  obtain ⟨⟨t372, t373, t374⟩, A6, H⟩ := H
  dsimp only at H
  obtain ⟨hcz7_0, hcz7_1, hfz7_0, hfz7_1⟩ := cz2 (W := w4) BK370
  go_upto_if 31 with (first | ((with_reducible refine gate_callee (f := 37) rfl ?_); refine goesL_ (some 27) rfl rfl Tryd.func37 (by kernel_rfl) rfl #[.agg #[.string a0_0, .int .i64 a0_1]] rfl lz ?_; (with_reducible refine (platenref04_Norm.calls k a0_0 a0_1 t372 t373 t374 _ A6.out).mono ?_); rintro e w8 ⟨rfl, hb⟩; refine ⟨_, rfl, ?_⟩; replace BK370 := kN (g := gb370) (cs := #[.string a0_0, .int .i64 a0_1]) hb bk; replace HB := bN bz hb; (try clear hb); (try clear hb2); (try clear hk); (try clear hi)) | ((with_reducible refine gate_dst (N := 6) rfl ?_); refine box_event rfl (N := 6) rfl (cs := #[.string (⟨#[]⟩ : ByteArray), .int .i64 0]) (t := 28) gz ?_; intro gb375 hg w9 hbox hb; have GE375 := gN bz hg; have NB370_375 := lN (g := gb370) (cs := #[.string a0_0, .int .i64 a0_1]) hg bk; have NB375_370 := rN (g := gb370) (cs := #[.string a0_0, .int .i64 a0_1]) hg bk; replace BK370 := kN (g := gb370) (cs := #[.string a0_0, .int .i64 a0_1]) hb bk; have BK375 := Aside0.mk hbox; replace HB := bN bz hb; clear hb hbox hg; have hnb10 := NB375_370.out; have hnc10 := NB370_375.out; obtain ⟨hcz11_0, hcz11_1, hfz11_0, hfz11_1⟩ := cz2 (W := w9) BK375))
  (try simp only [Act.put, List.setIfInBounds_toArray, List.set_cons_zero, List.set_cons_succ])
  by_cases c12 : t374 = 0
  ·rw [if_pos c12] at H
   obtain ⟨c12b0, c12b1⟩ := eT c12
   clear c12
   try first | rw [c12b0] | rw [c12b1]
   replace H := bs H
   obtain ⟨⟨t376, t377, t378⟩, A13, H⟩ := H
   dsimp only at H
   replace H := bs H
   obtain ⟨t379, A14, H⟩ := H
   replace H := bs H
   obtain ⟨t380, A15, H⟩ := H
   have HC16 := Aside0.mk H
   clear H
   go_upto_region 8 with (first | ((with_reducible refine gate_callee (f := 30) rfl ?_); refine goesL_ (some 35) rfl rfl Tryd.func30 (by kernel_rfl) rfl #[.int .i64 a1] rfl lz ?_; (with_reducible refine (platenref05_Shape.calls a1 t376 t377 t378 _ A13.out).mono ?_); rintro e w' ⟨rfl, ⟨nd, rfl⟩⟩; refine ⟨_, rfl, ?_⟩) | ((with_reducible refine gate_callee (f := 31) rfl ?_); refine goesL_ (some 40) rfl rfl Tryd.func31 (by kernel_rfl) rfl #[.int .i64 t377] rfl lz ?_; (with_reducible refine (platenref05_pow.calls k t377 t379 _ A14.out).mono ?_); rintro e w' ⟨rfl, ⟨nd, rfl⟩⟩; refine ⟨_, rfl, ?_⟩) | ((with_reducible refine gate_callee (f := 31) rfl ?_); refine goesL_ (some 43) rfl rfl Tryd.func31 (by kernel_rfl) rfl #[.int .i64 t376] rfl lz ?_; (with_reducible refine (platenref05_pow.calls k t376 t380 _ A15.out).mono ?_); rintro e w' ⟨rfl, ⟨nd, rfl⟩⟩; refine ⟨_, rfl, ?_⟩))
   (try simp only [Act.put, List.setIfInBounds_toArray, List.set_cons_zero, List.set_cons_succ])
   go_cut [52] (fun v52 wc => ∃ (kq : Nat) (x52_15 : Bool), v52 = .bool x52_15 ∧ Aside0 (platenref05_Read.j0 kq t376 t378 (IntKind.u64.wrap ((IntKind.u64.wrap (t379 - 1)) * t380)) x52_15 t372 t373 = some (r1, r2)) ∧ Aside0 (kq ≤ k) ∧ Aside0 (wc.heap[gb370]? = some (.cells #[.string a0_0, .int .i64 a0_1] 28 (0, 0))) ∧ Aside0 (wc.heap[gb375]? = some (.cells #[.string t372, .int .i64 t373] 28 (0, 0))) ∧ Aside0 (Below w.heap.size w wc))
   case first =>
    have H := HC16.out
    clear HC16
    by_cases c17 : t372.toList = ([] : List UInt8)
    ·rw [if_pos c17] at H
     have c17b0 : (t372.toList == ([] : List UInt8)) = true := beq_iff_eq.mpr c17
     have c17b1 : (t372.toList != ([] : List UInt8)) = false := bne_eq_false_iff_eq.mpr c17
     have c17b7 : t372.toList.isEmpty = true := by simpa using c17b0
     clear c17
     try first | rw [c17b0] | rw [c17b1] | rw [c17b7]
     have H' := Aside0.mk H
     clear H
     have hnb18 := NB375_370.out
     have hnc18 := NB370_375.out
     obtain ⟨hcz19_0, hcz19_1, hfz19_0, hfz19_1⟩ := cz2 (W := w9) BK375
     go_wp2
     go_meet
     case rel => exact ⟨_, (true), rz, H', ⟨by first | omega | exact Nat.le_refl _⟩, ⟨bk⟩, ⟨bk⟩, ⟨bz⟩⟩
    ·rw [if_neg c17] at H
     have c17b0 : (t372.toList == ([] : List UInt8)) = false := beq_eq_false_iff_ne.mpr c17
     have c17b1 : (t372.toList != ([] : List UInt8)) = true := bne_iff_ne.mpr c17
     have c17b7 : t372.toList.isEmpty = false := by simpa using c17b0
     try first | rw [c17b0] | rw [c17b1] | rw [c17b7]
     have H' := Aside0.mk H
     clear H
     have hnb20 := NB375_370.out
     have hnc20 := NB370_375.out
     obtain ⟨hcz21_0, hcz21_1, hfz21_0, hfz21_1⟩ := cz2 (W := w9) BK375
     go_wp2
     go_meet
     case rel => exact ⟨_, (decide (t373 < (-400))), rz, H', ⟨by first | omega | exact Nat.le_refl _⟩, ⟨bk⟩, ⟨bk⟩, ⟨bz⟩⟩
   case rest =>
    clear HC16
    try clear c5
    try clear c12
    try clear c12b0
    try clear c12b1
    try clear c17
    try clear c17b0
    try clear c17b1
    try clear hcz11_0 hcz11_1 hfz11_0 hfz11_1
    try clear hcz19_0 hcz19_1 hfz19_0 hfz19_1
    try clear hcz21_0 hcz21_1 hfz21_0 hfz21_1
    try clear hcz7_0 hcz7_1 hfz7_0 hfz7_1
    obtain ⟨kq, x52_15, rfl, HA, HJ15, BK370, BK375, HB⟩ := hcut
    cases kq with
    | zero => exact absurd HA.out (by simp [platenref05_Read.j0])
    | succ kj15 =>
     have H := HA.out
     clear HA
     simp only [platenref05_Read.j0] at H
     by_cases c22 : x52_15 = true
     ·subst c22
      replace H := hT H
      simp only [Option.some.injEq, Prod.mk.injEq] at H
      obtain ⟨rfl, rfl⟩ := H
      go_wp2
      go_ret2
      exact ⟨ez, bz⟩
     ·replace c22 := Bool.eq_false_iff.mpr c22
      subst c22
      replace H := hF H
      by_cases c23 : t373 > 400
      ·rw [if_pos c23] at H
       have c23b0 : decide (400 < t373) = true := decide_eq_true c23
       clear c23
       simp only [Option.some.injEq, Prod.mk.injEq] at H
       obtain ⟨rfl, rfl⟩ := H
       have hnb24 := NB375_370.out
       have hnc24 := NB370_375.out
       obtain ⟨hcz25_0, hcz25_1, hfz25_0, hfz25_1⟩ := cz2 (W := wc) BK375
       go_wp2
       go_ret2
       exact ⟨ez, bz⟩
      ·rw [if_neg c23] at H
       have c23b0 : decide (400 < t373) = false := decide_eq_false c23
       clear c23
       replace H := bs H
       obtain ⟨t381, A26, H⟩ := H
       replace H := bs H
       obtain ⟨t384, A27, H⟩ := H
       have HC28 := Aside0.mk H
       clear H
       have hnb29 := NB375_370.out
       have hnc29 := NB370_375.out
       obtain ⟨hcz30_0, hcz30_1, hfz30_0, hfz30_1⟩ := cz2 (W := wc) BK375
       go_upto_if 66 with (first | ((with_reducible refine gate_callee (f := 38) rfl ?_); refine goesL_ (some 59) rfl rfl Tryd.func38 (by kernel_rfl) rfl #[.string t372, .int .i64 0] rfl lz ?_; (with_reducible refine (platenref05_whole.calls kj15 t372 0 t381 _ A26.out).mono ?_); rintro e w31 ⟨v382, rfl, ho0, hb⟩; refine ⟨_, rfl, ?_⟩; have n0_ := Aside0.mk (Kd.R_lower ho0 (below_size bz)); have n1_ := Aside0.mk (blk_below (g := gb370) (o := .cells #[.string a0_0, .int .i64 a0_1] 28 (0, 0)) bk hb); have n2_ := Aside0.mk (blk_below (g := gb375) (o := .cells #[.string t372, .int .i64 t373] 28 (0, 0)) bk hb); have n3_ := Aside0.mk (below_step bz hb); clear BK370; clear BK375; clear HB; have HO383 := n0_; have BK370 := n1_; have BK375 := n2_; have HB := n3_; clear n0_ n1_ n2_ n3_; (try clear hb); (try clear hb2); (try clear hk); (try clear hi); (try clear ho0)) | ((with_reducible refine gate_callee (f := 38) rfl ?_); refine goesL_ (some 60) rfl rfl Tryd.func38 (by kernel_rfl) rfl #[.string (⟨#[49]⟩ : ByteArray), .int .i64 0] rfl lz ?_; (with_reducible refine (platenref05_whole.calls kj15 (⟨#[49]⟩ : ByteArray) 0 t384 _ A27.out).mono ?_); rintro e w32 ⟨v385, rfl, ho0, hb⟩; refine ⟨_, rfl, ?_⟩; have n0_ := Aside0.mk (Kd.R_elder' (by (with_reducible repeat (first | apply Kd.R_alloc | apply Kd.R_drewN | apply Kd.R_drew)); exact HO383.out) (Kd.R_base ho0) hb); have n1_ := Aside0.mk (Kd.R_lower (Kd.R_new' ho0 (Kd.R_lt (by (with_reducible repeat (first | apply Kd.R_alloc | apply Kd.R_drewN | apply Kd.R_drew)); exact HO383.out))) (below_size bz)); have n2_ := Aside0.mk (blk_below (g := gb370) (o := .cells #[.string a0_0, .int .i64 a0_1] 28 (0, 0)) bk hb); have n3_ := Aside0.mk (blk_below (g := gb375) (o := .cells #[.string t372, .int .i64 t373] 28 (0, 0)) bk hb); have n4_ := Aside0.mk (below_step bz hb); clear HO383; clear BK370; clear BK375; clear HB; have HO383 := n0_; have HO386 := n1_; have BK370 := n2_; have BK375 := n3_; have HB := n4_; clear n0_ n1_ n2_ n3_ n4_; (try clear hb); (try clear hb2); (try clear hk); (try clear hi); (try clear ho0); obtain ⟨hcz33_0, hcz33_1, hfz33_0, hfz33_1⟩ := cz2 (W := w32) BK375))
       (try simp only [Act.put, List.setIfInBounds_toArray, List.set_cons_zero, List.set_cons_succ])
       go_cut [12, 13] (fun v12 v13 wc => ∃ (kq : Nat) (x12_27 : List Int) (x13_27 : List Int), Aside0 (platenref05_Read.j1 kq t376 t378 (IntKind.u64.wrap ((IntKind.u64.wrap (t379 - 1)) * t380)) x12_27 x13_27 = some (r1, r2)) ∧ Aside0 (kq ≤ kj15) ∧ Aside0 (Kd.R (Kd.int .u8) 5 wc w.heap.size (fun k_ => some k_ ≠ (v13 : Value).ownBlock) v12 x12_27) ∧ Aside0 (Kd.R (Kd.int .u8) 5 wc w.heap.size (fun k_ => some k_ ≠ (v12 : Value).ownBlock) v13 x13_27) ∧ Aside0 (wc.heap[gb370]? = some (.cells #[.string a0_0, .int .i64 a0_1] 28 (0, 0))) ∧ Aside0 (wc.heap[gb375]? = some (.cells #[.string t372, .int .i64 t373] 28 (0, 0))) ∧ Aside0 (Below w.heap.size w wc))
       case first =>
        have H := HC28.out
        clear HC28
        by_cases c34 : (t372.size : Int) < t373
        ·rw [if_pos c34] at H
         have c34b0 := decide_eq_true c34
         clear c34
         try rw [c34b0]
         replace H := bs H
         obtain ⟨t387, A35, H⟩ := H
         have H' := Aside0.mk H
         clear H
         have hnb36 := NB375_370.out
         have hnc36 := NB370_375.out
         obtain ⟨hcz37_0, hcz37_1, hfz37_0, hfz37_1⟩ := cz2 (W := w32) BK375
         go_wp2_with (first | ((with_reducible refine gate_callee (f := 38) rfl ?_); refine goesL_ (some 75) rfl rfl Tryd.func38 (by kernel_rfl) rfl #[.string t372, .int .i64 (wrap64 (t373 - (t372.size : Int)))] rfl lz ?_; (with_reducible refine (platenref05_whole.calls kj15 t372 (wrap64 (t373 - (t372.size : Int))) t387 _ A35.out).mono ?_); rintro e w38 ⟨v388, rfl, ho0, hb⟩; refine ⟨_, rfl, ?_⟩; have n0_ := Aside0.mk (Kd.R_elder' (by (with_reducible repeat (first | apply Kd.R_alloc | apply Kd.R_drewN | apply Kd.R_drew)); exact HO383.out) (Kd.R_base ho0) hb); have n1_ := Aside0.mk (Kd.R_elder' (by (with_reducible repeat (first | apply Kd.R_alloc | apply Kd.R_drewN | apply Kd.R_drew)); exact HO386.out) (Kd.R_base ho0) hb); have n2_ := Aside0.mk (Kd.R_lower (Kd.R_new' (Kd.R_new' ho0 (Kd.R_lt (by (with_reducible repeat (first | apply Kd.R_alloc | apply Kd.R_drewN | apply Kd.R_drew)); exact HO383.out))) (Kd.R_lt (by (with_reducible repeat (first | apply Kd.R_alloc | apply Kd.R_drewN | apply Kd.R_drew)); exact HO386.out))) (below_size bz)); have n3_ := Aside0.mk (blk_below (g := gb370) (o := .cells #[.string a0_0, .int .i64 a0_1] 28 (0, 0)) bk hb); have n4_ := Aside0.mk (blk_below (g := gb375) (o := .cells #[.string t372, .int .i64 t373] 28 (0, 0)) bk hb); have n5_ := Aside0.mk (below_step bz hb); clear HO383; clear HO386; clear BK370; clear BK375; clear HB; have HO383 := n0_; have HO386 := n1_; have HO389 := n2_; have BK370 := n3_; have BK375 := n4_; have HB := n5_; clear n0_ n1_ n2_ n3_ n4_ n5_; (try clear hb); (try clear hb2); (try clear hk); (try clear hi); (try clear ho0)))
         go_meet
         case rel => exact ⟨_, (t387), (t384), H', ⟨by have := HJ15.out; first | omega | exact Nat.le_refl _⟩, ⟨by (with_reducible repeat (first | apply Kd.R_alloc | apply Kd.R_drewN | apply Kd.R_drew)); exact Kd.R_mono HO389.out (fun _ hk => hk.2)⟩, ⟨by (with_reducible repeat (first | apply Kd.R_alloc | apply Kd.R_drewN | apply Kd.R_drew)); exact Kd.R_mono HO386.out (fun _ hk => hk.2)⟩, ⟨bk⟩, ⟨bk⟩, ⟨bz⟩⟩
        ·rw [if_neg c34] at H
         have c34b0 := decide_eq_false c34
         clear c34
         try rw [c34b0]
         replace H := bs H
         obtain ⟨t390, A39, H⟩ := H
         have H' := Aside0.mk H
         clear H
         have hnb40 := NB375_370.out
         have hnc40 := NB370_375.out
         obtain ⟨hcz41_0, hcz41_1, hfz41_0, hfz41_1⟩ := cz2 (W := w32) BK375
         go_wp2_with (first | ((with_reducible refine gate_callee (f := 38) rfl ?_); refine goesL_ (some 82) rfl rfl Tryd.func38 (by kernel_rfl) rfl #[.string (⟨#[49]⟩ : ByteArray), .int .i64 (wrap64 ((t372.size : Int) - t373))] rfl lz ?_; (with_reducible refine (platenref05_whole.calls kj15 (⟨#[49]⟩ : ByteArray) (wrap64 ((t372.size : Int) - t373)) t390 _ A39.out).mono ?_); rintro e w42 ⟨v391, rfl, ho0, hb⟩; refine ⟨_, rfl, ?_⟩; have n0_ := Aside0.mk (Kd.R_elder' (by (with_reducible repeat (first | apply Kd.R_alloc | apply Kd.R_drewN | apply Kd.R_drew)); exact HO383.out) (Kd.R_base ho0) hb); have n1_ := Aside0.mk (Kd.R_elder' (by (with_reducible repeat (first | apply Kd.R_alloc | apply Kd.R_drewN | apply Kd.R_drew)); exact HO386.out) (Kd.R_base ho0) hb); have n2_ := Aside0.mk (Kd.R_lower (Kd.R_new' (Kd.R_new' ho0 (Kd.R_lt (by (with_reducible repeat (first | apply Kd.R_alloc | apply Kd.R_drewN | apply Kd.R_drew)); exact HO383.out))) (Kd.R_lt (by (with_reducible repeat (first | apply Kd.R_alloc | apply Kd.R_drewN | apply Kd.R_drew)); exact HO386.out))) (below_size bz)); have n3_ := Aside0.mk (blk_below (g := gb370) (o := .cells #[.string a0_0, .int .i64 a0_1] 28 (0, 0)) bk hb); have n4_ := Aside0.mk (blk_below (g := gb375) (o := .cells #[.string t372, .int .i64 t373] 28 (0, 0)) bk hb); have n5_ := Aside0.mk (below_step bz hb); clear HO383; clear HO386; clear BK370; clear BK375; clear HB; have HO383 := n0_; have HO386 := n1_; have HO392 := n2_; have BK370 := n3_; have BK375 := n4_; have HB := n5_; clear n0_ n1_ n2_ n3_ n4_ n5_; (try clear hb); (try clear hb2); (try clear hk); (try clear hi); (try clear ho0)))
         go_meet
         case rel => exact ⟨_, (t381), (t390), H', ⟨by have := HJ15.out; first | omega | exact Nat.le_refl _⟩, ⟨by (with_reducible repeat (first | apply Kd.R_alloc | apply Kd.R_drewN | apply Kd.R_drew)); exact Kd.R_mono HO383.out (fun _ hk => hk.2)⟩, ⟨by (with_reducible repeat (first | apply Kd.R_alloc | apply Kd.R_drewN | apply Kd.R_drew)); exact Kd.R_mono HO392.out (fun _ hk => hk.1.2)⟩, ⟨bk⟩, ⟨bk⟩, ⟨bz⟩⟩
       case rest =>
        clear HC28
        try clear c5
        try clear c12
        try clear c12b0
        try clear c12b1
        try clear c17
        try clear c17b0
        try clear c17b1
        try clear c22
        try clear c23
        try clear c23b0
        try clear c34
        try clear c34b0
        try clear hcz11_0 hcz11_1 hfz11_0 hfz11_1
        try clear hcz19_0 hcz19_1 hfz19_0 hfz19_1
        try clear hcz21_0 hcz21_1 hfz21_0 hfz21_1
        try clear hcz25_0 hcz25_1 hfz25_0 hfz25_1
        try clear hcz30_0 hcz30_1 hfz30_0 hfz30_1
        try clear hcz33_0 hcz33_1 hfz33_0 hfz33_1
        try clear hcz37_0 hcz37_1 hfz37_0 hfz37_1
        try clear hcz41_0 hcz41_1 hfz41_0 hfz41_1
        try clear hcz7_0 hcz7_1 hfz7_0 hfz7_1
        obtain ⟨kq, x12_27, x13_27, HA, HJ27, HO_12, HO_13, BK370, BK375, HB⟩ := hcut
        cases kq with
        | zero => exact absurd HA.out (by simp [platenref05_Read.j1])
        | succ kj27 =>
         have H := HA.out
         clear HA
         simp only [platenref05_Read.j1] at H
         obtain ⟨y393, hy393⟩ : ∃ y_ : List Int, y_ = (([] : List Int)) := ⟨_, rfl⟩
         replace H : (if y393.length + x13_27.length < 140737488355328 then (platenref05_Read.l0 kj27 t376 t378 (IntKind.u64.wrap ((IntKind.u64.wrap (t379 - 1)) * t380)) x12_27 x13_27 (y393 ++ x13_27) 0) else (none)) = some (r1, r2) := by first | (rw [hy393]; with_reducible exact H) | (have H2_ := (Option.bind_some _ _).symm.trans H; rw [hy393]; with_reducible exact H2_) | (have H2_ := (Option.bind_some _ _).symm.trans H; with_reducible exact H2_) | with_reducible exact H | (rw [hy393]; exact H) | exact H
         have Ny393 := Aside0.mk hy393
         clear hy393
         by_cases c43 : y393.length + x13_27.length < 140737488355328
         ·rw [if_pos c43] at H
          have LMc43 := Aside0.mk c43
          clear c43
          obtain ⟨y396, hy396⟩ : ∃ y_ : List Int, y_ = (y393 ++ x13_27) := ⟨_, rfl⟩
          replace H : (platenref05_Read.l0 kj27 t376 t378 (IntKind.u64.wrap ((IntKind.u64.wrap (t379 - 1)) * t380)) x12_27 x13_27 y396 0) = some (r1, r2) := by first | (rw [hy396]; with_reducible exact H) | (have H2_ := (Option.bind_some _ _).symm.trans H; rw [hy396]; with_reducible exact H2_) | (have H2_ := (Option.bind_some _ _).symm.trans H; with_reducible exact H2_) | with_reducible exact H | (rw [hy396]; exact H) | exact H
          have Ny396 := Aside0.mk hy396
          clear hy396
          have H' := Aside0.mk H
          clear H
          go_wp2_with (first | ((with_reducible refine gate_dst (N := 83) rfl ?_); refine Kd.R_lit (Kd.int .u8) _ 5 ?hg (N := 83) ?hd (xs := ([] : List Int)) (inner := []) (ok := fun _ => True) (okp := fun _ => True) ?hr ?hp (fun _ hk => hk) trivial (Below.refl _ _) (Nat.le_refl _) (by simp) ?_; (case hd => rfl); (case hg => rfl); (case hr => first | (go_simp; done) | (go_simp; rfl)); (case hp => exact (Reps.none _ _)); intro v394 w44 ho45 hb hg_ hnew_; clear hg_ hnew_; (first | rw [← Ny393.out] at ho45 | (simp only [Int.reduceToNat] at ho45; rw [← Ny393.out] at ho45)); have n0_ := Aside0.mk (Kd.R_elder' (by (with_reducible repeat (first | apply Kd.R_alloc | apply Kd.R_drewN | apply Kd.R_drew)); exact HO_12.out) (Kd.R_base ho45) hb); have n1_ := Aside0.mk (Kd.R_elder' (by (with_reducible repeat (first | apply Kd.R_alloc | apply Kd.R_drewN | apply Kd.R_drew)); exact HO_13.out) (Kd.R_base ho45) hb); have n2_ := Aside0.mk (Kd.R_lower (Kd.R_new' (Kd.R_new' ho45 (Kd.R_lt (by (with_reducible repeat (first | apply Kd.R_alloc | apply Kd.R_drewN | apply Kd.R_drew)); exact HO_12.out))) (Kd.R_lt (by (with_reducible repeat (first | apply Kd.R_alloc | apply Kd.R_drewN | apply Kd.R_drew)); exact HO_13.out))) (below_size bz)); have n3_ := Aside0.mk (blk_below (g := gb370) (o := .cells #[.string a0_0, .int .i64 a0_1] 28 (0, 0)) bk hb); have n4_ := Aside0.mk (blk_below (g := gb375) (o := .cells #[.string t372, .int .i64 t373] 28 (0, 0)) bk hb); have n5_ := Aside0.mk (below_step bz hb); clear HO_12; clear HO_13; clear BK370; clear BK375; clear HB; have HO_12 := n0_; have HO_13 := n1_; have HO395 := n2_; have BK370 := n3_; have BK375 := n4_; have HB := n5_; clear n0_ n1_ n2_ n3_ n4_ n5_; clear hb ho45; obtain ⟨Ao47, co47, eo47⟩ := Kd.R_slice HO_13.out; subst eo47) | ((with_reducible refine gate_builtin (b := .append) (xs := #[.tmp 83, .tmp 84]) rfl ?_); at_builtin; refine Kd.R_append_rows (Kd.int .u8) (w0 := w) w.heap.size rfl (.tmp 83) (.tmp 84) 63 5 (.int .u8 0) 1 rfl Tryd.underlying63 info5 rfl (by decide) (by omega) v394 y393 x13_27 _ _ _ (fun k_ => some k_ ≠ (u12 : Value).ownBlock ∧ some k_ ≠ (.slice Ao47 x13_27.length co47 : Value).ownBlock) (fun _ => False) rfl rfl ?aO ?aR (fun _ _ h => h) (fun _ h => h.elim) ?aF ?aB ?aS ?aL ?_; (case aR => repeat (first | exact (Kd.R_reads' HO_13.out).2.2 | (with_reducible refine Kd.C_alloc ?_ _) | (with_reducible refine Kd.C_drewN ?_ _) | (with_reducible refine Kd.C_drew ?_))); (case aB => exact bz); (case aF => exact (fun k_ hk => ⟨Kd.fresh' (Kd.R_lt (by (with_reducible repeat (first | apply Kd.R_alloc | apply Kd.R_drewN | apply Kd.R_drew)); exact HO_12.out)) k_ hk, Kd.fresh' (Kd.R_lt (by (with_reducible repeat (first | apply Kd.R_alloc | apply Kd.R_drewN | apply Kd.R_drew)); exact HO_13.out)) k_ hk⟩)); (case aO => exact (by (with_reducible repeat (first | apply Kd.R_alloc | apply Kd.R_drewN | apply Kd.R_drew)); exact Kd.R_mono HO395.out (fun _ hk => ⟨hk.1.2, hk.2⟩))); (case aS => exact (below_size bz)); (case aL => have := LMc43.out; omega); intro v397 w46 ho hb hg hat; rw [← Ny396.out] at ho; have n0_ := Aside0.mk (Kd.R_after (ok := (fun k_ => some k_ ≠ (.slice Ao47 x13_27.length co47 : Value).ownBlock)) (by (with_reducible repeat (first | apply Kd.R_alloc | apply Kd.R_drewN | apply Kd.R_drew)); exact HO_12.out) hg hat); have n1_ := Aside0.mk (Kd.R_after (ok := (fun k_ => some k_ ≠ (u12 : Value).ownBlock)) (by (with_reducible repeat (first | apply Kd.R_alloc | apply Kd.R_drewN | apply Kd.R_drew)); exact HO_13.out) hg hat); have n2_ := Aside0.mk (blk_grown (g := gb370) (o := .cells #[.string a0_0, .int .i64 a0_1] 28 (0, 0)) bk hg (Kd.R_ne HO395.out BK370.out (by decide))); have n3_ := Aside0.mk (blk_grown (g := gb375) (o := .cells #[.string t372, .int .i64 t373] 28 (0, 0)) bk hg (Kd.R_ne HO395.out BK375.out (by decide))); have n4_ := Aside0.mk (hb); have n5_ := Aside0.mk (ho); clear HO_12; clear HO_13; clear BK370; clear BK375; clear HB; clear HO395; have HO_12 := n0_; have HO_13 := n1_; have BK370 := n2_; have BK375 := n3_; have HB := n4_; have HO398 := n5_; clear n0_ n1_ n2_ n3_ n4_ n5_; clear ho hb hg hat))
          go_loopg [14, 15] kj27 (fun kq v14 v15 w' => ∃ (x14_3 : List Int) (x15_3 : Int), v15 = .int .i64 x15_3 ∧ Aside0 (platenref05_Read.l0 kq t376 t378 (IntKind.u64.wrap ((IntKind.u64.wrap (t379 - 1)) * t380)) x12_27 x13_27 x14_3 x15_3 = some (r1, r2)) ∧ Aside0 (kq ≤ kj27) ∧ Aside0 (Kd.R (Kd.int .u8) 5 w' w.heap.size (fun k_ => some k_ ≠ ((.slice Ao47 x13_27.length co47) : Value).ownBlock ∧ some k_ ≠ (v14 : Value).ownBlock) u12 x12_27) ∧ Aside0 (Kd.R (Kd.int .u8) 5 w' w.heap.size (fun k_ => some k_ ≠ (u12 : Value).ownBlock ∧ some k_ ≠ (v14 : Value).ownBlock) (.slice Ao47 x13_27.length co47) x13_27) ∧ Aside0 (Kd.R (Kd.int .u8) 5 w' w.heap.size (fun k_ => some k_ ≠ (u12 : Value).ownBlock ∧ some k_ ≠ ((.slice Ao47 x13_27.length co47) : Value).ownBlock) v14 x14_3) ∧ Aside0 (w'.heap[gb370]? = some (.cells #[.string a0_0, .int .i64 a0_1] 28 (0, 0))) ∧ Aside0 (w'.heap[gb375]? = some (.cells #[.string t372, .int .i64 t373] 28 (0, 0))) ∧ Aside0 (Below w.heap.size w w'))
          case atStart => exact ⟨(y396), (0), rz, H', ⟨Nat.le_refl _⟩, ⟨by (with_reducible repeat (first | apply Kd.R_alloc | apply Kd.R_drewN | apply Kd.R_drew)); exact HO_12.out⟩, ⟨by (with_reducible repeat (first | apply Kd.R_alloc | apply Kd.R_drewN | apply Kd.R_drew)); exact HO_13.out⟩, ⟨by (with_reducible repeat (first | apply Kd.R_alloc | apply Kd.R_drewN | apply Kd.R_drew)); exact HO398.out⟩, ⟨bk⟩, ⟨bk⟩, ⟨bz⟩⟩
          case round =>
           clear H'
           try clear c5
           try clear c12
           try clear c12b0
           try clear c12b1
           try clear c17
           try clear c17b0
           try clear c17b1
           try clear c22
           try clear c23
           try clear c23b0
           try clear c34
           try clear c34b0
           try clear c43
           try clear hcz11_0 hcz11_1 hfz11_0 hfz11_1
           try clear hcz19_0 hcz19_1 hfz19_0 hfz19_1
           try clear hcz21_0 hcz21_1 hfz21_0 hfz21_1
           try clear hcz25_0 hcz25_1 hfz25_0 hfz25_1
           try clear hcz30_0 hcz30_1 hfz30_0 hfz30_1
           try clear hcz33_0 hcz33_1 hfz33_0 hfz33_1
           try clear hcz37_0 hcz37_1 hfz37_0 hfz37_1
           try clear hcz41_0 hcz41_1 hfz41_0 hfz41_1
           try clear hcz7_0 hcz7_1 hfz7_0 hfz7_1
           obtain ⟨x14_3, x15_3, rfl, HA, HK3, HO_12, HO_13, HO_14, BK370, BK375, HB⟩ := hrel
           cases gk with
           | zero => exact absurd HA.out (by simp [platenref05_Read.l0])
           | succ k3 =>
            have H := HA.out
            clear HA
            simp only [platenref05_Read.l0] at H
            by_cases c48 : x15_3 ≤ t376
            ·rw [if_pos c48] at H
             have c48b0 := decide_eq_true c48
             clear c48
             replace H := bs H
             obtain ⟨t399, A49, H⟩ := H
             have H' := Aside0.mk H
             clear H
             obtain ⟨Ao50, co50, eo50⟩ := Kd.R_slice HO_14.out
             subst eo50
             go_wp2_with (first | ((with_reducible refine gate_callee (f := 39) rfl ?_); refine goesL_ (some 92) rfl rfl Tryd.func39 (by kernel_rfl) rfl #[.slice Ao50 x14_3.length co50, .int .i64 2] rfl lz ?_; (with_reducible refine (platenref04_Times.calls k3 _ _ x14_3 2 t399 _ ?side1 ?side2 A49.out).mono ?_); (case side1 => repeat (first | exact (Kd.R_reads' HO_14.out).2.2 | (with_reducible refine Kd.C_alloc ?_ _) | (with_reducible refine Kd.C_drewN ?_ _) | (with_reducible refine Kd.C_drew ?_))); (case side2 => exact (Kd.R_reads' HO_14.out).2.1); rintro e w51 ⟨v400, rfl, ho0, hb⟩; refine ⟨_, rfl, ?_⟩; have n0_ := Aside0.mk (Kd.R_elder' (by (with_reducible repeat (first | apply Kd.R_alloc | apply Kd.R_drewN | apply Kd.R_drew)); exact HO_12.out) (Kd.R_base ho0) hb); have n1_ := Aside0.mk (Kd.R_elder' (by (with_reducible repeat (first | apply Kd.R_alloc | apply Kd.R_drewN | apply Kd.R_drew)); exact HO_13.out) (Kd.R_base ho0) hb); have n2_ := Aside0.mk (Kd.R_elder' (by (with_reducible repeat (first | apply Kd.R_alloc | apply Kd.R_drewN | apply Kd.R_drew)); exact HO_14.out) (Kd.R_base ho0) hb); have n3_ := Aside0.mk (Kd.R_lower (Kd.R_new' (Kd.R_new' (Kd.R_new' ho0 (Kd.R_lt (by (with_reducible repeat (first | apply Kd.R_alloc | apply Kd.R_drewN | apply Kd.R_drew)); exact HO_12.out))) (Kd.R_lt (by (with_reducible repeat (first | apply Kd.R_alloc | apply Kd.R_drewN | apply Kd.R_drew)); exact HO_13.out))) (Kd.R_lt (by (with_reducible repeat (first | apply Kd.R_alloc | apply Kd.R_drewN | apply Kd.R_drew)); exact HO_14.out))) (below_size bz)); have n4_ := Aside0.mk (blk_below (g := gb370) (o := .cells #[.string a0_0, .int .i64 a0_1] 28 (0, 0)) bk hb); have n5_ := Aside0.mk (blk_below (g := gb375) (o := .cells #[.string t372, .int .i64 t373] 28 (0, 0)) bk hb); have n6_ := Aside0.mk (below_step bz hb); clear HO_12; clear HO_13; clear HO_14; clear BK370; clear BK375; clear HB; have HO_12 := n0_; have HO_13 := n1_; have HO_14 := n2_; have HO401 := n3_; have BK370 := n4_; have BK375 := n5_; have HB := n6_; clear n0_ n1_ n2_ n3_ n4_ n5_ n6_; (try clear hb); (try clear hb2); (try clear hk); (try clear hi); (try clear ho0)))
             go_roundg k3
             case measure => have := HJ15.out; have := HJ27.out; have := HK3.out; omega
             case rel => exact ⟨(t399), (wrap64 (x15_3 + 1)), rz, H', ⟨by have := HJ15.out; have := HJ27.out; have := HK3.out; omega⟩, ⟨by (with_reducible repeat (first | apply Kd.R_alloc | apply Kd.R_drewN | apply Kd.R_drew)); exact Kd.R_mono HO_12.out (fun _ hk => ⟨hk.1.1, hk.2⟩)⟩, ⟨by (with_reducible repeat (first | apply Kd.R_alloc | apply Kd.R_drewN | apply Kd.R_drew)); exact Kd.R_mono HO_13.out (fun _ hk => ⟨hk.1.1, hk.2⟩)⟩, ⟨by (with_reducible repeat (first | apply Kd.R_alloc | apply Kd.R_drewN | apply Kd.R_drew)); exact Kd.R_mono HO401.out (fun _ hk => ⟨hk.1.1.2, hk.1.2⟩)⟩, ⟨bk⟩, ⟨bk⟩, ⟨bz⟩⟩
            ·rw [if_neg c48] at H
             have c48b0 := decide_eq_false c48
             clear c48
             have H' := Aside0.mk H
             clear H
             go_wp2
             go_loopg [13, 14, 16] k3 (fun kq v13 v14 v16 w' => ∃ (x13_4 : List Int) (x14_4 : List Int) (x16_4 : Int), v16 = .int .i64 x16_4 ∧ Aside0 (platenref05_Read.l1 kq t376 t378 (IntKind.u64.wrap ((IntKind.u64.wrap (t379 - 1)) * t380)) x12_27 x13_4 x14_4 x16_4 = some (r1, r2)) ∧ Aside0 (kq ≤ k3) ∧ Aside0 (Kd.R (Kd.int .u8) 5 w' w.heap.size (fun k_ => some k_ ≠ (v13 : Value).ownBlock ∧ some k_ ≠ (v14 : Value).ownBlock) u12 x12_27) ∧ Aside0 (Kd.R (Kd.int .u8) 5 w' w.heap.size (fun k_ => some k_ ≠ (u12 : Value).ownBlock ∧ some k_ ≠ (v14 : Value).ownBlock) v13 x13_4) ∧ Aside0 (Kd.R (Kd.int .u8) 5 w' w.heap.size (fun k_ => some k_ ≠ (u12 : Value).ownBlock ∧ some k_ ≠ (v13 : Value).ownBlock) v14 x14_4) ∧ Aside0 (w'.heap[gb370]? = some (.cells #[.string a0_0, .int .i64 a0_1] 28 (0, 0))) ∧ Aside0 (w'.heap[gb375]? = some (.cells #[.string t372, .int .i64 t373] 28 (0, 0))) ∧ Aside0 (Below w.heap.size w w'))
             case atStart => exact ⟨(x13_27), (x14_3), (0), rz, H', ⟨Nat.le_refl _⟩, ⟨by (with_reducible repeat (first | apply Kd.R_alloc | apply Kd.R_drewN | apply Kd.R_drew)); exact HO_12.out⟩, ⟨by (with_reducible repeat (first | apply Kd.R_alloc | apply Kd.R_drewN | apply Kd.R_drew)); exact HO_13.out⟩, ⟨by (with_reducible repeat (first | apply Kd.R_alloc | apply Kd.R_drewN | apply Kd.R_drew)); exact HO_14.out⟩, ⟨bk⟩, ⟨bk⟩, ⟨bz⟩⟩
             case round =>
              clear H'
              try clear c5
              try clear c12
              try clear c12b0
              try clear c12b1
              try clear c17
              try clear c17b0
              try clear c17b1
              try clear c22
              try clear c23
              try clear c23b0
              try clear c34
              try clear c34b0
              try clear c43
              try clear c48
              try clear c48b0
              try clear hcz11_0 hcz11_1 hfz11_0 hfz11_1
              try clear hcz19_0 hcz19_1 hfz19_0 hfz19_1
              try clear hcz21_0 hcz21_1 hfz21_0 hfz21_1
              try clear hcz25_0 hcz25_1 hfz25_0 hfz25_1
              try clear hcz30_0 hcz30_1 hfz30_0 hfz30_1
              try clear hcz33_0 hcz33_1 hfz33_0 hfz33_1
              try clear hcz37_0 hcz37_1 hfz37_0 hfz37_1
              try clear hcz41_0 hcz41_1 hfz41_0 hfz41_1
              try clear hcz7_0 hcz7_1 hfz7_0 hfz7_1
              obtain ⟨x13_4, x14_4, x16_4, rfl, HA, HK4, HO_12, HO_13, HO_14, BK370, BK375, HB⟩ := hrel
              cases gk with
              | zero => exact absurd HA.out (by simp [platenref05_Read.l1])
              | succ k4 =>
               have H := HA.out
               clear HA
               simp only [platenref05_Read.l1] at H
               replace H := bs H
               obtain ⟨t402, A52, H⟩ := H
               obtain ⟨Ao53, co53, eo53⟩ := Kd.R_slice HO_12.out
               subst eo53
               obtain ⟨Ao54, co54, eo54⟩ := Kd.R_slice HO_14.out
               subst eo54
               go_upto_if 96 with (first | ((with_reducible refine gate_callee (f := 40) rfl ?_); refine goesL_ (some 95) rfl rfl Tryd.func40 (by kernel_rfl) rfl #[.slice Ao53 x12_27.length co53, .slice Ao54 x14_4.length co54] rfl lz ?_; (with_reducible refine (platenref05_less.calls k4 _ _ x12_27 _ _ x14_4 t402 _ ?side1 ?side2 ?side3 ?side4 A52.out).mono ?_); (case side1 => repeat (first | exact (Kd.R_reads' HO_12.out).2.2 | (with_reducible refine Kd.C_alloc ?_ _) | (with_reducible refine Kd.C_drewN ?_ _) | (with_reducible refine Kd.C_drew ?_))); (case side2 => exact (Kd.R_reads' HO_12.out).2.1); (case side3 => repeat (first | exact (Kd.R_reads' HO_14.out).2.2 | (with_reducible refine Kd.C_alloc ?_ _) | (with_reducible refine Kd.C_drewN ?_ _) | (with_reducible refine Kd.C_drew ?_))); (case side4 => exact (Kd.R_reads' HO_14.out).2.1); rintro e w' ⟨rfl, ⟨nd, rfl⟩⟩; refine ⟨_, rfl, ?_⟩))
               (try simp only [Act.put, List.setIfInBounds_toArray, List.set_cons_zero, List.set_cons_succ])
               by_cases c55 : t402 = true
               ·subst c55
                replace H := hT H
                have HC56 := Aside0.mk H
                clear H
                go_upto_block 4 with (fail)
                go_cut [12, 16] (fun v12 v16 wc => ∃ (kq : Nat) (x12_55 : List Int) (x16_55 : Int), v16 = .int .i64 x16_55 ∧ Aside0 (platenref05_Read.j5 kq t376 t378 (IntKind.u64.wrap ((IntKind.u64.wrap (t379 - 1)) * t380)) x12_55 x13_4 x16_55 = some (r1, r2)) ∧ Aside0 (kq ≤ k4) ∧ Aside0 (Kd.R (Kd.int .u8) 5 wc w.heap.size (fun k_ => some k_ ≠ (u13 : Value).ownBlock) v12 x12_55) ∧ Aside0 (Kd.R (Kd.int .u8) 5 wc w.heap.size (fun k_ => some k_ ≠ (v12 : Value).ownBlock) u13 x13_4) ∧ Aside0 (wc.heap[gb370]? = some (.cells #[.string a0_0, .int .i64 a0_1] 28 (0, 0))) ∧ Aside0 (wc.heap[gb375]? = some (.cells #[.string t372, .int .i64 t373] 28 (0, 0))) ∧ Aside0 (Below w.heap.size w wc))
                case first =>
                 have H := HC56.out
                 clear HC56
                 have H' := Aside0.mk H
                 clear H
                 go_wp2
                 go_loopg [12, 16] k4 (fun kq v12 v16 w' => ∃ (x12_5 : List Int) (x16_5 : Int), v16 = .int .i64 x16_5 ∧ Aside0 (platenref05_Read.l2 kq t376 t378 (IntKind.u64.wrap ((IntKind.u64.wrap (t379 - 1)) * t380)) x12_5 x13_4 x14_4 x16_5 = some (r1, r2)) ∧ Aside0 (kq ≤ k4) ∧ Aside0 (Kd.R (Kd.int .u8) 5 w' w.heap.size (fun k_ => some k_ ≠ (u13 : Value).ownBlock ∧ some k_ ≠ ((.slice Ao54 x14_4.length co54) : Value).ownBlock) v12 x12_5) ∧ Aside0 (Kd.R (Kd.int .u8) 5 w' w.heap.size (fun k_ => some k_ ≠ (v12 : Value).ownBlock ∧ some k_ ≠ ((.slice Ao54 x14_4.length co54) : Value).ownBlock) u13 x13_4) ∧ Aside0 (Kd.R (Kd.int .u8) 5 w' w.heap.size (fun k_ => some k_ ≠ (v12 : Value).ownBlock ∧ some k_ ≠ (u13 : Value).ownBlock) (.slice Ao54 x14_4.length co54) x14_4) ∧ Aside0 (w'.heap[gb370]? = some (.cells #[.string a0_0, .int .i64 a0_1] 28 (0, 0))) ∧ Aside0 (w'.heap[gb375]? = some (.cells #[.string t372, .int .i64 t373] 28 (0, 0))) ∧ Aside0 (Below w.heap.size w w'))
                 case atStart => exact ⟨(x12_27), (x16_4), rz, H', ⟨Nat.le_refl _⟩, ⟨by (with_reducible repeat (first | apply Kd.R_alloc | apply Kd.R_drewN | apply Kd.R_drew)); exact HO_12.out⟩, ⟨by (with_reducible repeat (first | apply Kd.R_alloc | apply Kd.R_drewN | apply Kd.R_drew)); exact HO_13.out⟩, ⟨by (with_reducible repeat (first | apply Kd.R_alloc | apply Kd.R_drewN | apply Kd.R_drew)); exact HO_14.out⟩, ⟨bk⟩, ⟨bk⟩, ⟨bz⟩⟩
                 case round =>
                  clear H'
                  try clear c5
                  try clear c12
                  try clear c12b0
                  try clear c12b1
                  try clear c17
                  try clear c17b0
                  try clear c17b1
                  try clear c22
                  try clear c23
                  try clear c23b0
                  try clear c34
                  try clear c34b0
                  try clear c43
                  try clear c48
                  try clear c48b0
                  try clear c55
                  try clear hcz11_0 hcz11_1 hfz11_0 hfz11_1
                  try clear hcz19_0 hcz19_1 hfz19_0 hfz19_1
                  try clear hcz21_0 hcz21_1 hfz21_0 hfz21_1
                  try clear hcz25_0 hcz25_1 hfz25_0 hfz25_1
                  try clear hcz30_0 hcz30_1 hfz30_0 hfz30_1
                  try clear hcz33_0 hcz33_1 hfz33_0 hfz33_1
                  try clear hcz37_0 hcz37_1 hfz37_0 hfz37_1
                  try clear hcz41_0 hcz41_1 hfz41_0 hfz41_1
                  try clear hcz7_0 hcz7_1 hfz7_0 hfz7_1
                  obtain ⟨x12_5, x16_5, rfl, HA, HK5, HO_12, HO_13, HO_14, BK370, BK375, HB⟩ := hrel
                  cases gk with
                  | zero => exact absurd HA.out (by simp [platenref05_Read.l2])
                  | succ k5 =>
                   have H := HA.out
                   clear HA
                   simp only [platenref05_Read.l2] at H
                   by_cases c57 : x16_5 > t378
                   ·rw [if_pos c57] at H
                    have c57b0 : decide (t378 < x16_5) = true := decide_eq_true c57
                    clear c57
                    try rw [c57b0]
                    replace H := bs H
                    obtain ⟨t409, A58, H⟩ := H
                    replace H := bs H
                    obtain ⟨t412, A59, H⟩ := H
                    obtain ⟨Ao60, co60, eo60⟩ := Kd.R_slice HO_12.out
                    subst eo60
                    go_upto_if 111 with (first | ((with_reducible refine gate_callee (f := 39) rfl ?_); refine goesL_ (some 107) rfl rfl Tryd.func39 (by kernel_rfl) rfl #[.slice Ao60 x12_5.length co60, .int .i64 2] rfl lz ?_; (with_reducible refine (platenref04_Times.calls k5 _ _ x12_5 2 t409 _ ?side1 ?side2 A58.out).mono ?_); (case side1 => repeat (first | exact (Kd.R_reads' HO_12.out).2.2 | (with_reducible refine Kd.C_alloc ?_ _) | (with_reducible refine Kd.C_drewN ?_ _) | (with_reducible refine Kd.C_drew ?_))); (case side2 => exact (Kd.R_reads' HO_12.out).2.1); rintro e w61 ⟨v410, rfl, ho0, hb⟩; refine ⟨_, rfl, ?_⟩; have n0_ := Aside0.mk (Kd.R_elder' (by (with_reducible repeat (first | apply Kd.R_alloc | apply Kd.R_drewN | apply Kd.R_drew)); exact HO_12.out) (Kd.R_base ho0) hb); have n1_ := Aside0.mk (Kd.R_elder' (by (with_reducible repeat (first | apply Kd.R_alloc | apply Kd.R_drewN | apply Kd.R_drew)); exact HO_13.out) (Kd.R_base ho0) hb); have n2_ := Aside0.mk (Kd.R_elder' (by (with_reducible repeat (first | apply Kd.R_alloc | apply Kd.R_drewN | apply Kd.R_drew)); exact HO_14.out) (Kd.R_base ho0) hb); have n3_ := Aside0.mk (Kd.R_lower (Kd.R_new' (Kd.R_new' (Kd.R_new' ho0 (Kd.R_lt (by (with_reducible repeat (first | apply Kd.R_alloc | apply Kd.R_drewN | apply Kd.R_drew)); exact HO_12.out))) (Kd.R_lt (by (with_reducible repeat (first | apply Kd.R_alloc | apply Kd.R_drewN | apply Kd.R_drew)); exact HO_13.out))) (Kd.R_lt (by (with_reducible repeat (first | apply Kd.R_alloc | apply Kd.R_drewN | apply Kd.R_drew)); exact HO_14.out))) (below_size bz)); have n4_ := Aside0.mk (blk_below (g := gb370) (o := .cells #[.string a0_0, .int .i64 a0_1] 28 (0, 0)) bk hb); have n5_ := Aside0.mk (blk_below (g := gb375) (o := .cells #[.string t372, .int .i64 t373] 28 (0, 0)) bk hb); have n6_ := Aside0.mk (below_step bz hb); clear HO_12; clear HO_13; clear HO_14; clear BK370; clear BK375; clear HB; have HO_12 := n0_; have HO_13 := n1_; have HO_14 := n2_; have HO411 := n3_; have BK370 := n4_; have BK375 := n5_; have HB := n6_; clear n0_ n1_ n2_ n3_ n4_ n5_ n6_; (try clear hb); (try clear hb2); (try clear hk); (try clear hi); (try clear ho0); obtain ⟨Ao62, co62, eo62⟩ := Kd.R_slice HO411.out; subst eo62) | ((with_reducible refine gate_callee (f := 40) rfl ?_); refine goesL_ (some 110) rfl rfl Tryd.func40 (by kernel_rfl) rfl #[.slice Ao62 t409.length co62, .slice Ao54 x14_4.length co54] rfl lz ?_; (with_reducible refine (platenref05_less.calls k5 _ _ t409 _ _ x14_4 t412 _ ?side1 ?side2 ?side3 ?side4 A59.out).mono ?_); (case side1 => repeat (first | exact (Kd.R_reads' HO411.out).2.2 | (with_reducible refine Kd.C_alloc ?_ _) | (with_reducible refine Kd.C_drewN ?_ _) | (with_reducible refine Kd.C_drew ?_))); (case side2 => exact (Kd.R_reads' HO411.out).2.1); (case side3 => repeat (first | exact (Kd.R_reads' HO_14.out).2.2 | (with_reducible refine Kd.C_alloc ?_ _) | (with_reducible refine Kd.C_drewN ?_ _) | (with_reducible refine Kd.C_drew ?_))); (case side4 => exact (Kd.R_reads' HO_14.out).2.1); rintro e w' ⟨rfl, ⟨nd, rfl⟩⟩; refine ⟨_, rfl, ?_⟩))
                    (try simp only [Act.put, List.setIfInBounds_toArray, List.set_cons_zero, List.set_cons_succ])
                    by_cases c63 : t412 = true
                    ·subst c63
                     replace H := hT H
                     have H' := Aside0.mk H
                     clear H
                     go_wp2
                     go_roundg k5
                     case measure => have := HJ15.out; have := HJ27.out; have := HK3.out; have := HK4.out; have := HK5.out; omega
                     case rel => exact ⟨(t409), (wrap64 (x16_5 - 1)), rz, H', ⟨by have := HJ15.out; have := HJ27.out; have := HK3.out; have := HK4.out; have := HK5.out; omega⟩, ⟨by (with_reducible repeat (first | apply Kd.R_alloc | apply Kd.R_drewN | apply Kd.R_drew)); exact Kd.R_mono HO411.out (fun _ hk => ⟨hk.1.2, hk.2⟩)⟩, ⟨by (with_reducible repeat (first | apply Kd.R_alloc | apply Kd.R_drewN | apply Kd.R_drew)); exact Kd.R_mono HO_13.out (fun _ hk => ⟨hk.2, hk.1.2⟩)⟩, ⟨by (with_reducible repeat (first | apply Kd.R_alloc | apply Kd.R_drewN | apply Kd.R_drew)); exact Kd.R_mono HO_14.out (fun _ hk => ⟨hk.2, hk.1.2⟩)⟩, ⟨bk⟩, ⟨bk⟩, ⟨bz⟩⟩
                    ·replace c63 := Bool.eq_false_iff.mpr c63
                     subst c63
                     replace H := hF H
                     have H' := Aside0.mk H
                     clear H
                     go_wp2
                     go_meet
                     case rel => exact ⟨_, (x12_5), (x16_5), rz, H', ⟨by have := HJ15.out; have := HJ27.out; have := HK3.out; have := HK4.out; have := HK5.out; first | omega | exact Nat.le_refl _⟩, ⟨by (with_reducible repeat (first | apply Kd.R_alloc | apply Kd.R_drewN | apply Kd.R_drew)); exact Kd.R_mono HO_12.out (fun _ hk => hk.1.1)⟩, ⟨by (with_reducible repeat (first | apply Kd.R_alloc | apply Kd.R_drewN | apply Kd.R_drew)); exact Kd.R_mono HO_13.out (fun _ hk => hk.1.1)⟩, ⟨bk⟩, ⟨bk⟩, ⟨bz⟩⟩
                   ·rw [if_neg c57] at H
                    have c57b0 : decide (t378 < x16_5) = false := decide_eq_false c57
                    clear c57
                    try rw [c57b0]
                    have H' := Aside0.mk H
                    clear H
                    go_wp2
                    go_meet
                    case rel => exact ⟨_, (x12_5), (x16_5), rz, H', ⟨by have := HJ15.out; have := HJ27.out; have := HK3.out; have := HK4.out; have := HK5.out; first | omega | exact Nat.le_refl _⟩, ⟨by (with_reducible repeat (first | apply Kd.R_alloc | apply Kd.R_drewN | apply Kd.R_drew)); exact Kd.R_mono HO_12.out (fun _ hk => hk.1)⟩, ⟨by (with_reducible repeat (first | apply Kd.R_alloc | apply Kd.R_drewN | apply Kd.R_drew)); exact Kd.R_mono HO_13.out (fun _ hk => hk.1)⟩, ⟨bk⟩, ⟨bk⟩, ⟨bz⟩⟩
                case rest =>
                 clear HC56
                 try clear c5
                 try clear c12
                 try clear c12b0
                 try clear c12b1
                 try clear c17
                 try clear c17b0
                 try clear c17b1
                 try clear c22
                 try clear c23
                 try clear c23b0
                 try clear c34
                 try clear c34b0
                 try clear c43
                 try clear c48
                 try clear c48b0
                 try clear c55
                 try clear c57
                 try clear c57b0
                 try clear c63
                 try clear hcz11_0 hcz11_1 hfz11_0 hfz11_1
                 try clear hcz19_0 hcz19_1 hfz19_0 hfz19_1
                 try clear hcz21_0 hcz21_1 hfz21_0 hfz21_1
                 try clear hcz25_0 hcz25_1 hfz25_0 hfz25_1
                 try clear hcz30_0 hcz30_1 hfz30_0 hfz30_1
                 try clear hcz33_0 hcz33_1 hfz33_0 hfz33_1
                 try clear hcz37_0 hcz37_1 hfz37_0 hfz37_1
                 try clear hcz41_0 hcz41_1 hfz41_0 hfz41_1
                 try clear hcz7_0 hcz7_1 hfz7_0 hfz7_1
                 obtain ⟨kq, x12_55, x16_55, rfl, HA, HJ55, HO_12, HO_13, BK370, BK375, HB⟩ := hcut
                 cases kq with
                 | zero => exact absurd HA.out (by simp [platenref05_Read.j5])
                 | succ kj55 =>
                  have H := HA.out
                  clear HA
                  simp only [platenref05_Read.j5] at H
                  replace H := bs H
                  obtain ⟨⟨t413, t414⟩, A64, H⟩ := H
                  dsimp only at H
                  replace H := bs H
                  obtain ⟨t417, A65, H⟩ := H
                  have HC66 := Aside0.mk H
                  clear H
                  obtain ⟨Ao67, co67, eo67⟩ := Kd.R_slice HO_12.out
                  subst eo67
                  obtain ⟨Ao68, co68, eo68⟩ := Kd.R_slice HO_13.out
                  subst eo68
                  go_upto_region 33 with (first | ((with_reducible refine gate_callee (f := 41) rfl ?_); refine goesL_ (some 120) rfl rfl Tryd.func41 (by kernel_rfl) rfl #[.slice Ao67 x12_55.length co67, .slice Ao68 x13_4.length co68, .int .i64 (wrap64 (t376 + 2))] rfl lz ?_; (with_reducible refine (platenref05_divide.calls kj55 (fun k_ => some k_ = (.slice Ao67 x12_55.length co67 : Value).ownBlock) _ _ x12_55 (fun k_ => some k_ = (.slice Ao68 x13_4.length co68 : Value).ownBlock) _ _ x13_4 (wrap64 (t376 + 2)) t413 t414 _ ?side1 ?side2 A64.out).mono ?_); (case side1 => exact Kd.R_V (Kd.R_tight rfl (Kd.R_types (Kd.R_types (HO_12.out) BK370.out (by decide)) BK375.out (by decide)))); (case side2 => exact Kd.R_V (Kd.R_tight rfl (Kd.R_types (Kd.R_types (HO_13.out) BK370.out (by decide)) BK375.out (by decide)))); rintro e w69 ⟨v415, rfl, ho0, hb⟩; refine ⟨_, rfl, ?_⟩; have n0_ := Aside0.mk (Kd.R_below (by (with_reducible repeat (first | apply Kd.R_alloc | apply Kd.R_drewN | apply Kd.R_drew)); exact HO_12.out) hb); have n1_ := Aside0.mk (Kd.R_below (by (with_reducible repeat (first | apply Kd.R_alloc | apply Kd.R_drewN | apply Kd.R_drew)); exact HO_13.out) hb); have n2_ := Aside0.mk (Kd.V_lower (Kd.V_mono (ok' := fun k_ => k_ ≠ gb370 ∧ k_ ≠ gb375) ho0 (fun k_ hk_ => ⟨Or.elim hk_ (fun hs_ => Or.elim hs_ (fun hs_ => ((Kd.R_types (Kd.R_types (HO_12.out) BK370.out (by decide)) BK375.out (by decide)).1 k_ hs_.symm).1.2) (fun hs_ => ((Kd.R_types (Kd.R_types (HO_13.out) BK370.out (by decide)) BK375.out (by decide)).1 k_ hs_.symm).1.2)) (fun hn_ => (Kd.freshB (g := gb370) (o := .cells #[.string a0_0, .int .i64 a0_1] 28 (0, 0)) bk k_ hn_)), Or.elim hk_ (fun hs_ => Or.elim hs_ (fun hs_ => ((Kd.R_types (Kd.R_types (HO_12.out) BK370.out (by decide)) BK375.out (by decide)).1 k_ hs_.symm).2) (fun hs_ => ((Kd.R_types (Kd.R_types (HO_13.out) BK370.out (by decide)) BK375.out (by decide)).1 k_ hs_.symm).2)) (fun hn_ => (Kd.freshB (g := gb375) (o := .cells #[.string t372, .int .i64 t373] 28 (0, 0)) bk k_ hn_))⟩)) (below_size bz)); have n3_ := Aside0.mk (blk_below (g := gb370) (o := .cells #[.string a0_0, .int .i64 a0_1] 28 (0, 0)) bk hb); have n4_ := Aside0.mk (blk_below (g := gb375) (o := .cells #[.string t372, .int .i64 t373] 28 (0, 0)) bk hb); have n5_ := Aside0.mk (below_step bz hb); clear HO_12; clear HO_13; clear BK370; clear BK375; clear HB; have HO_12 := n0_; have HO_13 := n1_; have HO416 := n2_; have BK370 := n3_; have BK375 := n4_; have HB := n5_; clear n0_ n1_ n2_ n3_ n4_ n5_; (try clear hb); (try clear hb2); (try clear hk); (try clear hi); (try clear ho0); obtain ⟨Ao70, co70, eo70⟩ := Kd.V_slice HO416.out; subst eo70) | ((with_reducible refine gate_callee (f := 39) rfl ?_); refine goesL_ (some 124) rfl rfl Tryd.func39 (by kernel_rfl) rfl #[.slice Ao70 t414.length co70, .int .i64 2] rfl lz ?_; (with_reducible refine (platenref04_Times.calls kj55 _ _ t414 2 t417 _ ?side1 ?side2 A65.out).mono ?_); (case side1 => repeat (first | exact (Kd.V_reads' HO416.out).2.2 | (with_reducible refine Kd.C_alloc ?_ _) | (with_reducible refine Kd.C_drewN ?_ _) | (with_reducible refine Kd.C_drew ?_))); (case side2 => exact (Kd.V_reads' HO416.out).2.1); rintro e w71 ⟨v418, rfl, ho0, hb⟩; refine ⟨_, rfl, ?_⟩; have n0_ := Aside0.mk (Kd.R_elder' (by (with_reducible repeat (first | apply Kd.R_alloc | apply Kd.R_drewN | apply Kd.R_drew)); exact HO_12.out) (Kd.R_base ho0) hb); have n1_ := Aside0.mk (Kd.R_elder' (by (with_reducible repeat (first | apply Kd.R_alloc | apply Kd.R_drewN | apply Kd.R_drew)); exact HO_13.out) (Kd.R_base ho0) hb); have n2_ := Aside0.mk (Kd.V_elder' (by (with_reducible repeat (first | apply Kd.V_alloc | apply Kd.V_drewN | apply Kd.V_drew)); exact HO416.out) (Kd.R_base ho0) hb); have n3_ := Aside0.mk (Kd.R_lower (Kd.R_new' (Kd.R_new' ho0 (Kd.R_lt (by (with_reducible repeat (first | apply Kd.R_alloc | apply Kd.R_drewN | apply Kd.R_drew)); exact HO_12.out))) (Kd.R_lt (by (with_reducible repeat (first | apply Kd.R_alloc | apply Kd.R_drewN | apply Kd.R_drew)); exact HO_13.out))) (below_size bz)); have n4_ := Aside0.mk (blk_below (g := gb370) (o := .cells #[.string a0_0, .int .i64 a0_1] 28 (0, 0)) bk hb); have n5_ := Aside0.mk (blk_below (g := gb375) (o := .cells #[.string t372, .int .i64 t373] 28 (0, 0)) bk hb); have n6_ := Aside0.mk (below_step bz hb); clear HO_12; clear HO_13; clear HO416; clear BK370; clear BK375; clear HB; have HO_12 := n0_; have HO_13 := n1_; have HO416 := n2_; have HO419 := n3_; have BK370 := n4_; have BK375 := n5_; have HB := n6_; clear n0_ n1_ n2_ n3_ n4_ n5_ n6_; (try clear hb); (try clear hb2); (try clear hk); (try clear hi); (try clear ho0)))
                  (try simp only [Act.put, List.setIfInBounds_toArray, List.set_cons_zero, List.set_cons_succ])
                  go_cut [138] (fun v138 wc => ∃ (kq : Nat) (x138_65 : Bool), v138 = .bool x138_65 ∧ Aside0 (platenref05_Read.j6 kq t376 t378 (IntKind.u64.wrap ((IntKind.u64.wrap (t379 - 1)) * t380)) x16_55 t413 x138_65 = some (r1, r2)) ∧ Aside0 (kq ≤ kj55) ∧ Aside0 (wc.heap[gb370]? = some (.cells #[.string a0_0, .int .i64 a0_1] 28 (0, 0))) ∧ Aside0 (wc.heap[gb375]? = some (.cells #[.string t372, .int .i64 t373] 28 (0, 0))) ∧ Aside0 (Below w.heap.size w wc))
                  case first =>
                   have H := HC66.out
                   clear HC66
                   replace H := bs H
                   obtain ⟨t420, A72, H⟩ := H
                   by_cases c73 : t420 = true
                   ·subst c73
                    replace H := hT H
                    have H' := Aside0.mk H
                    clear H
                    obtain ⟨Ao74, co74, eo74⟩ := Kd.R_slice HO419.out
                    subst eo74
                    go_wp2_with (first | ((with_reducible refine gate_callee (f := 40) rfl ?_); refine goesL_ (some 127) rfl rfl Tryd.func40 (by kernel_rfl) rfl #[.slice Ao68 x13_4.length co68, .slice Ao74 t417.length co74] rfl lz ?_; (with_reducible refine (platenref05_less.calls kj55 _ _ x13_4 _ _ t417 true _ ?side1 ?side2 ?side3 ?side4 A72.out).mono ?_); (case side1 => repeat (first | exact (Kd.R_reads' HO_13.out).2.2 | (with_reducible refine Kd.C_alloc ?_ _) | (with_reducible refine Kd.C_drewN ?_ _) | (with_reducible refine Kd.C_drew ?_))); (case side2 => exact (Kd.R_reads' HO_13.out).2.1); (case side3 => repeat (first | exact (Kd.R_reads' HO419.out).2.2 | (with_reducible refine Kd.C_alloc ?_ _) | (with_reducible refine Kd.C_drewN ?_ _) | (with_reducible refine Kd.C_drew ?_))); (case side4 => exact (Kd.R_reads' HO419.out).2.1); rintro e w' ⟨rfl, ⟨nd, rfl⟩⟩; refine ⟨_, rfl, ?_⟩))
                    go_meet
                    case rel => exact ⟨_, (true), rz, H', ⟨by have := HJ15.out; have := HJ27.out; have := HK3.out; have := HK4.out; have := HJ55.out; first | omega | exact Nat.le_refl _⟩, ⟨bk⟩, ⟨bk⟩, ⟨bz⟩⟩
                   ·replace c73 := Bool.eq_false_iff.mpr c73
                    subst c73
                    replace H := hF H
                    replace H := bs H
                    obtain ⟨t421, A75, H⟩ := H
                    by_cases c76 : t421 = true
                    ·subst c76
                     replace H := hT H
                     have H' := Aside0.mk H
                     clear H
                     obtain ⟨Ao77, co77, eo77⟩ := Kd.R_slice HO419.out
                     subst eo77
                     go_wp2_with (first | ((with_reducible refine gate_callee (f := 40) rfl ?_); refine goesL_ (some 127) rfl rfl Tryd.func40 (by kernel_rfl) rfl #[.slice Ao68 x13_4.length co68, .slice Ao77 t417.length co77] rfl lz ?_; (with_reducible refine (platenref05_less.calls kj55 _ _ x13_4 _ _ t417 false _ ?side1 ?side2 ?side3 ?side4 A72.out).mono ?_); (case side1 => repeat (first | exact (Kd.R_reads' HO_13.out).2.2 | (with_reducible refine Kd.C_alloc ?_ _) | (with_reducible refine Kd.C_drewN ?_ _) | (with_reducible refine Kd.C_drew ?_))); (case side2 => exact (Kd.R_reads' HO_13.out).2.1); (case side3 => repeat (first | exact (Kd.R_reads' HO419.out).2.2 | (with_reducible refine Kd.C_alloc ?_ _) | (with_reducible refine Kd.C_drewN ?_ _) | (with_reducible refine Kd.C_drew ?_))); (case side4 => exact (Kd.R_reads' HO419.out).2.1); rintro e w' ⟨rfl, ⟨nd, rfl⟩⟩; refine ⟨_, rfl, ?_⟩) | (go_at_call 40; (with_reducible refine (platenref05_less.calls kj55 _ _ t417 _ _ x13_4 true _ ?side1 ?side2 ?side3 ?side4 A75.out).mono ?_); (case side1 => repeat (first | exact (Kd.R_reads' HO419.out).2.2 | (with_reducible refine Kd.C_alloc ?_ _) | (with_reducible refine Kd.C_drewN ?_ _) | (with_reducible refine Kd.C_drew ?_))); (case side2 => exact (Kd.R_reads' HO419.out).2.1); (case side3 => repeat (first | exact (Kd.R_reads' HO_13.out).2.2 | (with_reducible refine Kd.C_alloc ?_ _) | (with_reducible refine Kd.C_drewN ?_ _) | (with_reducible refine Kd.C_drew ?_))); (case side4 => exact (Kd.R_reads' HO_13.out).2.1); rintro e w' ⟨rfl, ⟨nd, rfl⟩⟩))
                     go_meet
                     case rel => exact ⟨_, (false), rz, H', ⟨by have := HJ15.out; have := HJ27.out; have := HK3.out; have := HK4.out; have := HJ55.out; first | omega | exact Nat.le_refl _⟩, ⟨bk⟩, ⟨bk⟩, ⟨bz⟩⟩
                    ·replace c76 := Bool.eq_false_iff.mpr c76
                     subst c76
                     replace H := hF H
                     have H' := Aside0.mk H
                     clear H
                     obtain ⟨Ao78, co78, eo78⟩ := Kd.R_slice HO419.out
                     subst eo78
                     go_wp2_with (first | ((with_reducible refine gate_callee (f := 40) rfl ?_); refine goesL_ (some 127) rfl rfl Tryd.func40 (by kernel_rfl) rfl #[.slice Ao68 x13_4.length co68, .slice Ao78 t417.length co78] rfl lz ?_; (with_reducible refine (platenref05_less.calls kj55 _ _ x13_4 _ _ t417 false _ ?side1 ?side2 ?side3 ?side4 A72.out).mono ?_); (case side1 => repeat (first | exact (Kd.R_reads' HO_13.out).2.2 | (with_reducible refine Kd.C_alloc ?_ _) | (with_reducible refine Kd.C_drewN ?_ _) | (with_reducible refine Kd.C_drew ?_))); (case side2 => exact (Kd.R_reads' HO_13.out).2.1); (case side3 => repeat (first | exact (Kd.R_reads' HO419.out).2.2 | (with_reducible refine Kd.C_alloc ?_ _) | (with_reducible refine Kd.C_drewN ?_ _) | (with_reducible refine Kd.C_drew ?_))); (case side4 => exact (Kd.R_reads' HO419.out).2.1); rintro e w' ⟨rfl, ⟨nd, rfl⟩⟩; refine ⟨_, rfl, ?_⟩) | (go_at_call 40; (with_reducible refine (platenref05_less.calls kj55 _ _ t417 _ _ x13_4 false _ ?side1 ?side2 ?side3 ?side4 A75.out).mono ?_); (case side1 => repeat (first | exact (Kd.R_reads' HO419.out).2.2 | (with_reducible refine Kd.C_alloc ?_ _) | (with_reducible refine Kd.C_drewN ?_ _) | (with_reducible refine Kd.C_drew ?_))); (case side2 => exact (Kd.R_reads' HO419.out).2.1); (case side3 => repeat (first | exact (Kd.R_reads' HO_13.out).2.2 | (with_reducible refine Kd.C_alloc ?_ _) | (with_reducible refine Kd.C_drewN ?_ _) | (with_reducible refine Kd.C_drew ?_))); (case side4 => exact (Kd.R_reads' HO_13.out).2.1); rintro e w' ⟨rfl, ⟨nd, rfl⟩⟩))
                     go_meet
                     case rel => exact ⟨_, (((Int.tmod t413 2) == 1)), rz, H', ⟨by have := HJ15.out; have := HJ27.out; have := HK3.out; have := HK4.out; have := HJ55.out; first | omega | exact Nat.le_refl _⟩, ⟨bk⟩, ⟨bk⟩, ⟨bz⟩⟩
                  case rest =>
                   clear HC66
                   try clear c5
                   try clear c12
                   try clear c12b0
                   try clear c12b1
                   try clear c17
                   try clear c17b0
                   try clear c17b1
                   try clear c22
                   try clear c23
                   try clear c23b0
                   try clear c34
                   try clear c34b0
                   try clear c43
                   try clear c48
                   try clear c48b0
                   try clear c55
                   try clear c57
                   try clear c57b0
                   try clear c63
                   try clear c73
                   try clear c76
                   try clear hcz11_0 hcz11_1 hfz11_0 hfz11_1
                   try clear hcz19_0 hcz19_1 hfz19_0 hfz19_1
                   try clear hcz21_0 hcz21_1 hfz21_0 hfz21_1
                   try clear hcz25_0 hcz25_1 hfz25_0 hfz25_1
                   try clear hcz30_0 hcz30_1 hfz30_0 hfz30_1
                   try clear hcz33_0 hcz33_1 hfz33_0 hfz33_1
                   try clear hcz37_0 hcz37_1 hfz37_0 hfz37_1
                   try clear hcz41_0 hcz41_1 hfz41_0 hfz41_1
                   try clear hcz7_0 hcz7_1 hfz7_0 hfz7_1
                   obtain ⟨kq, x138_65, rfl, HA, HJ65, BK370, BK375, HB⟩ := hcut
                   cases kq with
                   | zero => exact absurd HA.out (by simp [platenref05_Read.j6])
                   | succ kj65 =>
                    have H := HA.out
                    clear HA
                    simp only [platenref05_Read.j6] at H
                    have HC79 := Aside0.mk H
                    clear H
                    go_upto_if 138 with (fail)
                    go_cut [18] (fun v18 wc => ∃ (kq : Nat) (x18_78 : Int), v18 = .int .u64 x18_78 ∧ Aside0 (platenref05_Read.j7 kq t376 t378 (IntKind.u64.wrap ((IntKind.u64.wrap (t379 - 1)) * t380)) x16_55 x18_78 = some (r1, r2)) ∧ Aside0 (kq ≤ kj65) ∧ Aside0 (wc.heap[gb370]? = some (.cells #[.string a0_0, .int .i64 a0_1] 28 (0, 0))) ∧ Aside0 (wc.heap[gb375]? = some (.cells #[.string t372, .int .i64 t373] 28 (0, 0))) ∧ Aside0 (Below w.heap.size w wc))
                    case first =>
                     have H := HC79.out
                     clear HC79
                     by_cases c80 : x138_65 = true
                     ·subst c80
                      replace H := hT H
                      have H' := Aside0.mk H
                      clear H
                      go_wp2
                      go_meet
                      case rel => exact ⟨_, (IntKind.u64.wrap (t413 + 1)), rz, H', ⟨by have := HJ15.out; have := HJ27.out; have := HK3.out; have := HK4.out; have := HJ55.out; have := HJ65.out; first | omega | exact Nat.le_refl _⟩, ⟨bk⟩, ⟨bk⟩, ⟨bz⟩⟩
                     ·replace c80 := Bool.eq_false_iff.mpr c80
                      subst c80
                      replace H := hF H
                      have H' := Aside0.mk H
                      clear H
                      go_wp2
                      go_meet
                      case rel => exact ⟨_, (t413), rz, H', ⟨by have := HJ15.out; have := HJ27.out; have := HK3.out; have := HK4.out; have := HJ55.out; have := HJ65.out; first | omega | exact Nat.le_refl _⟩, ⟨bk⟩, ⟨bk⟩, ⟨bz⟩⟩
                    case rest =>
                     clear HC79
                     try clear c5
                     try clear c12
                     try clear c12b0
                     try clear c12b1
                     try clear c17
                     try clear c17b0
                     try clear c17b1
                     try clear c22
                     try clear c23
                     try clear c23b0
                     try clear c34
                     try clear c34b0
                     try clear c43
                     try clear c48
                     try clear c48b0
                     try clear c55
                     try clear c57
                     try clear c57b0
                     try clear c63
                     try clear c73
                     try clear c76
                     try clear c80
                     try clear hcz11_0 hcz11_1 hfz11_0 hfz11_1
                     try clear hcz19_0 hcz19_1 hfz19_0 hfz19_1
                     try clear hcz21_0 hcz21_1 hfz21_0 hfz21_1
                     try clear hcz25_0 hcz25_1 hfz25_0 hfz25_1
                     try clear hcz30_0 hcz30_1 hfz30_0 hfz30_1
                     try clear hcz33_0 hcz33_1 hfz33_0 hfz33_1
                     try clear hcz37_0 hcz37_1 hfz37_0 hfz37_1
                     try clear hcz41_0 hcz41_1 hfz41_0 hfz41_1
                     try clear hcz7_0 hcz7_1 hfz7_0 hfz7_1
                     obtain ⟨kq, x18_78, rfl, HA, HJ78, BK370, BK375, HB⟩ := hcut
                     cases kq with
                     | zero => exact absurd HA.out (by simp [platenref05_Read.j7])
                     | succ kj78 =>
                      have H := HA.out
                      clear HA
                      simp only [platenref05_Read.j7] at H
                      replace H := bs H
                      obtain ⟨t422, A81, H⟩ := H
                      have HC82 := Aside0.mk H
                      clear H
                      go_upto_if 145 with (first | ((with_reducible refine gate_callee (f := 31) rfl ?_); refine goesL_ (some 144) rfl rfl Tryd.func31 (by kernel_rfl) rfl #[.int .i64 (wrap64 (t376 + 1))] rfl lz ?_; (with_reducible refine (platenref05_pow.calls kj78 (wrap64 (t376 + 1)) t422 _ A81.out).mono ?_); rintro e w' ⟨rfl, ⟨nd, rfl⟩⟩; refine ⟨_, rfl, ?_⟩))
                      (try simp only [Act.put, List.setIfInBounds_toArray, List.set_cons_zero, List.set_cons_succ])
                      go_cut [16, 18] (fun v16 v18 wc => ∃ (kq : Nat) (x16_81 : Int) (x18_81 : Int), v16 = .int .i64 x16_81 ∧ v18 = .int .u64 x18_81 ∧ Aside0 (platenref05_Read.j8 kq t376 t378 (IntKind.u64.wrap ((IntKind.u64.wrap (t379 - 1)) * t380)) x16_81 x18_81 = some (r1, r2)) ∧ Aside0 (kq ≤ kj78) ∧ Aside0 (wc.heap[gb370]? = some (.cells #[.string a0_0, .int .i64 a0_1] 28 (0, 0))) ∧ Aside0 (wc.heap[gb375]? = some (.cells #[.string t372, .int .i64 t373] 28 (0, 0))) ∧ Aside0 (Below w.heap.size w wc))
                      case first =>
                       have H := HC82.out
                       clear HC82
                       by_cases c83 : x18_78 ≥ t422
                       ·rw [if_pos c83] at H
                        have c83b0 : decide (t422 ≤ x18_78) = true := decide_eq_true c83
                        clear c83
                        try rw [c83b0]
                        have H' := Aside0.mk H
                        clear H
                        go_wp2
                        go_meet
                        case rel => exact ⟨_, (wrap64 (x16_55 + 1)), (IntKind.u64.wrap (Int.tdiv x18_78 2)), rz, rz, H', ⟨by have := HJ15.out; have := HJ27.out; have := HK3.out; have := HK4.out; have := HJ55.out; have := HJ65.out; have := HJ78.out; first | omega | exact Nat.le_refl _⟩, ⟨bk⟩, ⟨bk⟩, ⟨bz⟩⟩
                       ·rw [if_neg c83] at H
                        have c83b0 : decide (t422 ≤ x18_78) = false := decide_eq_false c83
                        clear c83
                        try rw [c83b0]
                        have H' := Aside0.mk H
                        clear H
                        go_wp2
                        go_meet
                        case rel => exact ⟨_, (x16_55), (x18_78), rz, rz, H', ⟨by have := HJ15.out; have := HJ27.out; have := HK3.out; have := HK4.out; have := HJ55.out; have := HJ65.out; have := HJ78.out; first | omega | exact Nat.le_refl _⟩, ⟨bk⟩, ⟨bk⟩, ⟨bz⟩⟩
                      case rest =>
                       clear HC82
                       try clear c5
                       try clear c12
                       try clear c12b0
                       try clear c12b1
                       try clear c17
                       try clear c17b0
                       try clear c17b1
                       try clear c22
                       try clear c23
                       try clear c23b0
                       try clear c34
                       try clear c34b0
                       try clear c43
                       try clear c48
                       try clear c48b0
                       try clear c55
                       try clear c57
                       try clear c57b0
                       try clear c63
                       try clear c73
                       try clear c76
                       try clear c80
                       try clear c83
                       try clear c83b0
                       try clear hcz11_0 hcz11_1 hfz11_0 hfz11_1
                       try clear hcz19_0 hcz19_1 hfz19_0 hfz19_1
                       try clear hcz21_0 hcz21_1 hfz21_0 hfz21_1
                       try clear hcz25_0 hcz25_1 hfz25_0 hfz25_1
                       try clear hcz30_0 hcz30_1 hfz30_0 hfz30_1
                       try clear hcz33_0 hcz33_1 hfz33_0 hfz33_1
                       try clear hcz37_0 hcz37_1 hfz37_0 hfz37_1
                       try clear hcz41_0 hcz41_1 hfz41_0 hfz41_1
                       try clear hcz7_0 hcz7_1 hfz7_0 hfz7_1
                       obtain ⟨kq, x16_81, x18_81, rfl, rfl, HA, HJ81, BK370, BK375, HB⟩ := hcut
                       cases kq with
                       | zero => exact absurd HA.out (by simp [platenref05_Read.j8])
                       | succ kj81 =>
                        have H := HA.out
                        clear HA
                        simp only [platenref05_Read.j8] at H
                        replace H := bs H
                        obtain ⟨t423, A84, H⟩ := H
                        go_upto_if 153 with (first | ((with_reducible refine gate_callee (f := 31) rfl ?_); refine goesL_ (some 152) rfl rfl Tryd.func31 (by kernel_rfl) rfl #[.int .i64 t376] rfl lz ?_; (with_reducible refine (platenref05_pow.calls kj81 t376 t423 _ A84.out).mono ?_); rintro e w' ⟨rfl, ⟨nd, rfl⟩⟩; refine ⟨_, rfl, ?_⟩))
                        (try simp only [Act.put, List.setIfInBounds_toArray, List.set_cons_zero, List.set_cons_succ])
                        by_cases c85 : x18_81 < t423
                        ·rw [if_pos c85] at H
                         have c85b0 := decide_eq_true c85
                         clear c85
                         try rw [c85b0]
                         simp only [Option.some.injEq, Prod.mk.injEq] at H
                         obtain ⟨rfl, rfl⟩ := H
                         go_wp2
                         go_ret2
                         exact ⟨ez, bz⟩
                        ·rw [if_neg c85] at H
                         have c85b0 := decide_eq_false c85
                         clear c85
                         try rw [c85b0]
                         replace H := bs H
                         obtain ⟨t424, A86, H⟩ := H
                         replace H := bs H
                         obtain ⟨t425, A87, H⟩ := H
                         go_upto_if 170 with (first | ((with_reducible refine gate_callee (f := 31) rfl ?_); refine goesL_ (some 161) rfl rfl Tryd.func31 (by kernel_rfl) rfl #[.int .i64 t376] rfl lz ?_; (with_reducible refine (platenref05_pow.calls kj81 t376 t424 _ A86.out).mono ?_); rintro e w' ⟨rfl, ⟨nd, rfl⟩⟩; refine ⟨_, rfl, ?_⟩) | ((with_reducible refine gate_callee (f := 31) rfl ?_); refine goesL_ (some 166) rfl rfl Tryd.func31 (by kernel_rfl) rfl #[.int .i64 t376] rfl lz ?_; (with_reducible refine (platenref05_pow.calls kj81 t376 t425 _ A87.out).mono ?_); rintro e w' ⟨rfl, ⟨nd, rfl⟩⟩; refine ⟨_, rfl, ?_⟩))
                         (try simp only [Act.put, List.setIfInBounds_toArray, List.set_cons_zero, List.set_cons_succ])
                         by_cases c88 : (IntKind.u64.wrap ((IntKind.u64.wrap ((IntKind.u64.wrap ((IntKind.u64.wrap (wrap64 ((wrap64 (x16_81 - t378)) + 1))) * t424)) + x18_81)) - t425)) > (IntKind.u64.wrap ((IntKind.u64.wrap (t379 - 1)) * t380))
                         ·rw [if_pos c88] at H
                          have c88b0 : decide ((IntKind.u64.wrap ((IntKind.u64.wrap (t379 - 1)) * t380)) < (IntKind.u64.wrap ((IntKind.u64.wrap ((IntKind.u64.wrap ((IntKind.u64.wrap (wrap64 ((wrap64 (x16_81 - t378)) + 1))) * t424)) + x18_81)) - t425))) = true := decide_eq_true c88
                          clear c88
                          (first | rw [c88b0] | (simp only [i64_w, i32_w]; rw [c88b0]) | skip)
                          simp only [Option.some.injEq, Prod.mk.injEq] at H
                          obtain ⟨rfl, rfl⟩ := H
                          go_wp2
                          go_ret2
                          exact ⟨ez, bz⟩
                         ·rw [if_neg c88] at H
                          have c88b0 : decide ((IntKind.u64.wrap ((IntKind.u64.wrap (t379 - 1)) * t380)) < (IntKind.u64.wrap ((IntKind.u64.wrap ((IntKind.u64.wrap ((IntKind.u64.wrap (wrap64 ((wrap64 (x16_81 - t378)) + 1))) * t424)) + x18_81)) - t425))) = false := decide_eq_false c88
                          clear c88
                          (first | rw [c88b0] | (simp only [i64_w, i32_w]; rw [c88b0]) | skip)
                          simp only [Option.some.injEq, Prod.mk.injEq] at H
                          obtain ⟨rfl, rfl⟩ := H
                          go_wp2
                          go_ret2
                          exact ⟨ez, bz⟩
               ·replace c55 := Bool.eq_false_iff.mpr c55
                subst c55
                replace H := hF H
                replace H := bs H
                obtain ⟨t403, A89, H⟩ := H
                replace H := bs H
                obtain ⟨t406, A90, H⟩ := H
                have H' := Aside0.mk H
                clear H
                obtain ⟨Ao91, co91, eo91⟩ := Kd.R_slice HO_13.out
                subst eo91
                go_wp2_with (first | ((with_reducible refine gate_callee (f := 39) rfl ?_); refine goesL_ (some 98) rfl rfl Tryd.func39 (by kernel_rfl) rfl #[.slice Ao91 x13_4.length co91, .int .i64 2] rfl lz ?_; (with_reducible refine (platenref04_Times.calls k4 _ _ x13_4 2 t403 _ ?side1 ?side2 A89.out).mono ?_); (case side1 => repeat (first | exact (Kd.R_reads' HO_13.out).2.2 | (with_reducible refine Kd.C_alloc ?_ _) | (with_reducible refine Kd.C_drewN ?_ _) | (with_reducible refine Kd.C_drew ?_))); (case side2 => exact (Kd.R_reads' HO_13.out).2.1); rintro e w92 ⟨v404, rfl, ho0, hb⟩; refine ⟨_, rfl, ?_⟩; have n0_ := Aside0.mk (Kd.R_elder' (by (with_reducible repeat (first | apply Kd.R_alloc | apply Kd.R_drewN | apply Kd.R_drew)); exact HO_12.out) (Kd.R_base ho0) hb); have n1_ := Aside0.mk (Kd.R_elder' (by (with_reducible repeat (first | apply Kd.R_alloc | apply Kd.R_drewN | apply Kd.R_drew)); exact HO_13.out) (Kd.R_base ho0) hb); have n2_ := Aside0.mk (Kd.R_elder' (by (with_reducible repeat (first | apply Kd.R_alloc | apply Kd.R_drewN | apply Kd.R_drew)); exact HO_14.out) (Kd.R_base ho0) hb); have n3_ := Aside0.mk (Kd.R_lower (Kd.R_new' (Kd.R_new' (Kd.R_new' ho0 (Kd.R_lt (by (with_reducible repeat (first | apply Kd.R_alloc | apply Kd.R_drewN | apply Kd.R_drew)); exact HO_12.out))) (Kd.R_lt (by (with_reducible repeat (first | apply Kd.R_alloc | apply Kd.R_drewN | apply Kd.R_drew)); exact HO_13.out))) (Kd.R_lt (by (with_reducible repeat (first | apply Kd.R_alloc | apply Kd.R_drewN | apply Kd.R_drew)); exact HO_14.out))) (below_size bz)); have n4_ := Aside0.mk (blk_below (g := gb370) (o := .cells #[.string a0_0, .int .i64 a0_1] 28 (0, 0)) bk hb); have n5_ := Aside0.mk (blk_below (g := gb375) (o := .cells #[.string t372, .int .i64 t373] 28 (0, 0)) bk hb); have n6_ := Aside0.mk (below_step bz hb); clear HO_12; clear HO_13; clear HO_14; clear BK370; clear BK375; clear HB; have HO_12 := n0_; have HO_13 := n1_; have HO_14 := n2_; have HO405 := n3_; have BK370 := n4_; have BK375 := n5_; have HB := n6_; clear n0_ n1_ n2_ n3_ n4_ n5_ n6_; (try clear hb); (try clear hb2); (try clear hk); (try clear hi); (try clear ho0)) | ((with_reducible refine gate_callee (f := 39) rfl ?_); refine goesL_ (some 100) rfl rfl Tryd.func39 (by kernel_rfl) rfl #[.slice Ao54 x14_4.length co54, .int .i64 2] rfl lz ?_; (with_reducible refine (platenref04_Times.calls k4 _ _ x14_4 2 t406 _ ?side1 ?side2 A90.out).mono ?_); (case side1 => repeat (first | exact (Kd.R_reads' HO_14.out).2.2 | (with_reducible refine Kd.C_alloc ?_ _) | (with_reducible refine Kd.C_drewN ?_ _) | (with_reducible refine Kd.C_drew ?_))); (case side2 => exact (Kd.R_reads' HO_14.out).2.1); rintro e w93 ⟨v407, rfl, ho0, hb⟩; refine ⟨_, rfl, ?_⟩; have n0_ := Aside0.mk (Kd.R_elder' (by (with_reducible repeat (first | apply Kd.R_alloc | apply Kd.R_drewN | apply Kd.R_drew)); exact HO_12.out) (Kd.R_base ho0) hb); have n1_ := Aside0.mk (Kd.R_elder' (by (with_reducible repeat (first | apply Kd.R_alloc | apply Kd.R_drewN | apply Kd.R_drew)); exact HO_13.out) (Kd.R_base ho0) hb); have n2_ := Aside0.mk (Kd.R_elder' (by (with_reducible repeat (first | apply Kd.R_alloc | apply Kd.R_drewN | apply Kd.R_drew)); exact HO_14.out) (Kd.R_base ho0) hb); have n3_ := Aside0.mk (Kd.R_elder' (by (with_reducible repeat (first | apply Kd.R_alloc | apply Kd.R_drewN | apply Kd.R_drew)); exact HO405.out) (Kd.R_base ho0) hb); have n4_ := Aside0.mk (Kd.R_lower (Kd.R_new' (Kd.R_new' (Kd.R_new' (Kd.R_new' ho0 (Kd.R_lt (by (with_reducible repeat (first | apply Kd.R_alloc | apply Kd.R_drewN | apply Kd.R_drew)); exact HO_12.out))) (Kd.R_lt (by (with_reducible repeat (first | apply Kd.R_alloc | apply Kd.R_drewN | apply Kd.R_drew)); exact HO_13.out))) (Kd.R_lt (by (with_reducible repeat (first | apply Kd.R_alloc | apply Kd.R_drewN | apply Kd.R_drew)); exact HO_14.out))) (Kd.R_lt (by (with_reducible repeat (first | apply Kd.R_alloc | apply Kd.R_drewN | apply Kd.R_drew)); exact HO405.out))) (below_size bz)); have n5_ := Aside0.mk (blk_below (g := gb370) (o := .cells #[.string a0_0, .int .i64 a0_1] 28 (0, 0)) bk hb); have n6_ := Aside0.mk (blk_below (g := gb375) (o := .cells #[.string t372, .int .i64 t373] 28 (0, 0)) bk hb); have n7_ := Aside0.mk (below_step bz hb); clear HO_12; clear HO_13; clear HO_14; clear HO405; clear BK370; clear BK375; clear HB; have HO_12 := n0_; have HO_13 := n1_; have HO_14 := n2_; have HO405 := n3_; have HO408 := n4_; have BK370 := n5_; have BK375 := n6_; have HB := n7_; clear n0_ n1_ n2_ n3_ n4_ n5_ n6_ n7_; (try clear hb); (try clear hb2); (try clear hk); (try clear hi); (try clear ho0)))
                go_roundg k4
                case measure => have := HJ15.out; have := HJ27.out; have := HK3.out; have := HK4.out; omega
                case rel => exact ⟨(t403), (t406), (wrap64 (x16_4 + 1)), rz, H', ⟨by have := HJ15.out; have := HJ27.out; have := HK3.out; have := HK4.out; omega⟩, ⟨by (with_reducible repeat (first | apply Kd.R_alloc | apply Kd.R_drewN | apply Kd.R_drew)); exact Kd.R_mono HO_12.out (fun _ hk => ⟨hk.1.2, hk.2⟩)⟩, ⟨by (with_reducible repeat (first | apply Kd.R_alloc | apply Kd.R_drewN | apply Kd.R_drew)); exact Kd.R_mono HO405.out (fun _ hk => ⟨hk.1.1.1.2, hk.2⟩)⟩, ⟨by (with_reducible repeat (first | apply Kd.R_alloc | apply Kd.R_drewN | apply Kd.R_drew)); exact Kd.R_mono HO408.out (fun _ hk => ⟨hk.1.1.1.2, hk.2⟩)⟩, ⟨bk⟩, ⟨bk⟩, ⟨bz⟩⟩
         ·rw [if_neg c43] at H
          exact absurd H (by simp)
  ·rw [if_neg c12] at H
   obtain ⟨c12b0, c12b1⟩ := eF c12
   try first | rw [c12b0] | rw [c12b1]
   simp only [Option.some.injEq, Prod.mk.injEq] at H
   obtain ⟨rfl, rfl⟩ := H
   go_wp2
   go_ret2
   exact ⟨ez, bz⟩
 ·replace c5 := Bool.eq_false_iff.mpr c5
  subst c5
  replace H := hF H
  simp only [Option.some.injEq, Prod.mk.injEq] at H
  obtain ⟨rfl, rfl⟩ := H
  go_wp2
  go_ret2
  exact ⟨ez, bz⟩
end Go.Proofs.YtmeapdchnnpceaaDoor.Fn
end
section
namespace Go.Proofs.YtmeapdchnnpceaaDoor.Fn
open Go.RowKit Go.Proofs.YtmeapdchnnpceaaDoorW.PrintWords Go.Proofs.YtmeapdchnnpceaaDoorW.PrintLast Go.Proofs.YtmeapdchnnpceaaDoorW.PrintMore
attribute [local go_sem] min2_int min_two
set_option linter.unusedVariables false
set_option linter.unusedSimpArgs false
def short_span_in.f (k : Nat) (a0_0 : ByteArray) (a0_1 : Int) (a0_2 : ByteArray) (a0_3 : Int) (a0_4 : Bool) (a1_0 : ByteArray) (a1_1 : Int) : Option (Bool) := (short_cmp.f k a1_0 a1_1 a0_0 a0_1).bind fun t180 => ((short_cmp.f k a1_0 a1_1 a0_2 a0_3).bind fun t181 => (if t180 > 0 then (if t181 < 0 then (some true) else (if a0_4 = true then (if t180 ≥ 0 then (some (decide (t181 ≤ 0))) else (some false)) else (some false))) else (if a0_4 = true then (if t180 ≥ 0 then (some (decide (t181 ≤ 0))) else (some false)) else (some false))))
def short_span_in.T1 : Bool × List (List Nat × List Nat) := (true, [([], []), ([], []), ([1], [1]), ([0, 2], [0, 2]), ([], []), ([], []), ([5], [5]), ([4, 6, 3], [4, 6]), ([3, 7, 0, 1, 2, 3], [3]), ([7, 8, 0, 1, 2, 3, 4, 5, 6, 7, 8], [7])])
def short_span_in.B1 : List Nat := [0, 0, 2, 7, 0, 0, 32, 127, 255, 511]
theorem short_span_in.tab1 : rtab .any (opsOf Tryd.f42 1) = short_span_in.T1 := by kernel_rfl
theorem short_span_in.bits1 : waitsOk short_span_in.T1.2 short_span_in.B1 = true := by kernel_rfl
set_option maxHeartbeats 8000000 in
set_option maxRecDepth 100000 in
theorem short_span_in.calls (k : Nat) (a0_0 : ByteArray) (a0_1 : Int) (a0_2 : ByteArray) (a0_3 : Int) (a0_4 : Bool) (a1_0 : ByteArray) (a1_1 : Int) (r : Bool) (w : World) (h : short_span_in.f k a0_0 a0_1 a0_2 a0_3 a0_4 a1_0 a1_1 = some r) :
  Calls Tryd.prog 42 #[.agg #[.string a0_0, .int .i64 a0_1, .string a0_2, .int .i64 a0_3, .bool a0_4], .agg #[.string a1_0, .int .i64 a1_1]] w fun e w' => e = .returned (.bool r) ∧ Below w.heap.size w w' := by
 have hu70 := Tryd.underlying70
 have hu28 := Tryd.underlying28
 have HB := Aside0.mk (Below.refl w.heap.size w)
 have H : ((short_cmp.f k a1_0 a1_1 a0_0 a0_1).bind fun t180 => ((short_cmp.f k a1_0 a1_1 a0_2 a0_3).bind fun t181 => (if t180 > 0 then (if t181 < 0 then (some true) else (if a0_4 = true then (if t180 ≥ 0 then (some (decide (t181 ≤ 0))) else (some false)) else (some false))) else (if a0_4 = true then (if t180 ≥ 0 then (some (decide (t181 ≤ 0))) else (some false)) else (some false))))) = some r := h
 clear h
 replace H := bs H
 obtain ⟨t180, A3, H⟩ := H
 replace H := bs H
 obtain ⟨t181, A4, H⟩ := H
 by_cases c5 : t180 > 0
 ·rw [if_pos c5] at H
  have c5b0 : decide (0 < t180) = true := decide_eq_true c5
  clear c5
  by_cases c6 : t181 < 0
  ·rw [if_pos c6] at H
   have c6b0 := decide_eq_true c6
   clear c6
   obtain rfl := Option.some.inj H
   go_enter Tryd.func42, Tryd.ntmps42
   try go_wp2_with (first | ((with_reducible refine gate_dst (N := 2) rfl ?_); refine box_event rfl (N := 2) rfl (cs := #[.string a0_0, .int .i64 a0_1, .string a0_2, .int .i64 a0_3, .bool a0_4]) (t := 70) gz ?_; intro gb178 hg w7 hbox hb; have GW178 := gN bz hg; have GE178 := gN bz hg; have BK178 := Aside0.mk hbox; replace HB := bN bz hb; clear hb hbox hg) | ((with_reducible refine gate_dst (N := 3) rfl ?_); refine box_event rfl (N := 3) rfl (cs := #[.string a1_0, .int .i64 a1_1]) (t := 28) gz ?_; intro gb179 hg w8 hbox hb; have GW179 := gN bz hg; have GE179 := gN bz hg; have NB178_179 := lN (g := gb178) (cs := #[.string a0_0, .int .i64 a0_1, .string a0_2, .int .i64 a0_3, .bool a0_4]) hg bk; have NB179_178 := rN (g := gb178) (cs := #[.string a0_0, .int .i64 a0_1, .string a0_2, .int .i64 a0_3, .bool a0_4]) hg bk; replace BK178 := kN (g := gb178) (cs := #[.string a0_0, .int .i64 a0_1, .string a0_2, .int .i64 a0_3, .bool a0_4]) hb bk; have BK179 := Aside0.mk hbox; replace HB := bN bz hb; clear hb hbox hg))
   replace BK178 := Aside0.mk (blk_drew BK178.out)
   replace BK179 := Aside0.mk (blk_drew BK179.out)
   replace HB := Aside0.mk (below_drew1 HB.out)
   refine start_ (n := 10) (S := fun w' => w'.cell? ⟨gb179, 0, none⟩ = some (.string a1_0) ∧ w'.cell? ⟨gb179, 1, none⟩ = some (.int .i64 a1_1) ∧ w'.cell? ⟨gb178, 0, none⟩ = some (.string a0_0) ∧ w'.cell? ⟨gb178, 1, none⟩ = some (.int .i64 a0_1) ∧ w'.cell? ⟨gb178, 2, none⟩ = some (.string a0_2) ∧ w'.cell? ⟨gb178, 3, none⟩ = some (.int .i64 a0_3) ∧ w'.cell? ⟨gb178, 4, none⟩ = some (.bool a0_4)) (ds := []) #[false, false, false, false, false, false, false, false, false, false] (by kernel_rfl) rfl rfl ⟨(blk_cell BK179.out 0).trans rfl, (blk_cell BK179.out 1).trans rfl, (blk_cell BK178.out 0).trans rfl, (blk_cell BK178.out 1).trans rfl, (blk_cell BK178.out 2).trans rfl, (blk_cell BK178.out 3).trans rfl, (blk_cell BK178.out 4).trans rfl⟩ (fun hHeld => ?_); refine with_tabW short_span_in.tab1 short_span_in.bits1 (fun HT_ HW_ => ?_)
   generalize w8.drew = w9 at BK178 BK179 HB hHeld ⊢
   refine pure_ (i := 1) (N := some 8) (v := ?_) (a' := ?_) #[false, true, false, false, false, false, false, false, false, false] rfl rfl (any_of HT_.out (by kernel_rfl)) (fun _ _ _ h => h) (Or.inl ⟨by rfl, ?_⟩) ?_ ?_
   rotate_left
   ·intro w'
    go_simp
    with_reducible rfl
   rotate_left
   ·simp only [Act.put, List.setIfInBounds_toArray, List.set_cons_zero, List.set_cons_succ, i64_w, i32_w]
    rfl
   refine pure_ (i := 5) (N := some 12) (v := ?_) (a' := ?_) #[false, true, false, false, false, true, false, false, false, false] rfl rfl (any_of HT_.out (by kernel_rfl)) (fun _ _ _ h => h) (Or.inl ⟨by rfl, ?_⟩) ?_ ?_
   rotate_left
   ·intro w'
    go_simp
    with_reducible rfl
   rotate_left
   ·simp only [Act.put, List.setIfInBounds_toArray, List.set_cons_zero, List.set_cons_succ, i64_w, i32_w]
    rfl
   refine take_ (i := 0) (N := some 7) (v := ?_) (a' := ?_) #[true, true, false, false, false, true, false, false, false, false] rfl rfl (take_ofW HT_.out HW_.out (by kernel_rfl)) (fun _ _ _ h => h) (Or.inl ⟨by rfl, ?_⟩) hHeld ?_ ?_
   rotate_left
   ·rintro w' ⟨s0, s1, s2, s3, s4, s5, s6⟩
    go_simp
    with_reducible rfl
   rotate_left
   ·simp only [Act.put, List.setIfInBounds_toArray, List.set_cons_zero, List.set_cons_succ, i64_w, i32_w]
    rfl
   refine take_ (i := 2) (N := some 9) (v := ?_) (a' := ?_) #[true, true, true, false, false, true, false, false, false, false] rfl rfl (take_ofW HT_.out HW_.out (by kernel_rfl)) (fun _ _ _ h => h) (Or.inl ⟨by rfl, ?_⟩) hHeld ?_ ?_
   rotate_left
   ·rintro w' ⟨s0, s1, s2, s3, s4, s5, s6⟩
    go_simp
    with_reducible rfl
   rotate_left
   ·simp only [Act.put, List.setIfInBounds_toArray, List.set_cons_zero, List.set_cons_succ, i64_w, i32_w]
    rfl
   refine take_ (i := 4) (N := some 11) (v := ?_) (a' := ?_) #[true, true, true, false, true, true, false, false, false, false] rfl rfl (take_ofW HT_.out HW_.out (by kernel_rfl)) (fun _ _ _ h => h) (Or.inl ⟨by rfl, ?_⟩) hHeld ?_ ?_
   rotate_left
   ·rintro w' ⟨s0, s1, s2, s3, s4, s5, s6⟩
    go_simp
    with_reducible rfl
   rotate_left
   ·simp only [Act.put, List.setIfInBounds_toArray, List.set_cons_zero, List.set_cons_succ, i64_w, i32_w]
    rfl
   refine take_ (i := 6) (N := some 13) (v := ?_) (a' := ?_) #[true, true, true, false, true, true, true, false, false, false] rfl rfl (take_ofW HT_.out HW_.out (by kernel_rfl)) (fun _ _ _ h => h) (Or.inl ⟨by rfl, ?_⟩) hHeld ?_ ?_
   rotate_left
   ·rintro w' ⟨s0, s1, s2, s3, s4, s5, s6⟩
    go_simp
    with_reducible rfl
   rotate_left
   ·simp only [Act.put, List.setIfInBounds_toArray, List.set_cons_zero, List.set_cons_succ, i64_w, i32_w]
    rfl
   refine one_ (i := 3) (N := some 10) #[true, true, true, true, true, true, true, false, false, false] rfl rfl (one_of HT_.out (by kernel_rfl)) (by decide) (fun K hK => ?_)
   refine goes_ Tryd.func34 (by kernel_rfl) rfl #[.agg #[.string a1_0, .int .i64 a1_1], .agg #[.string a0_0, .int .i64 a0_1]] (by rfl) rfl rfl lz ?_
   with_reducible refine (short_cmp.calls k a1_0 a1_1 a0_0 a0_1 t180 _ A3.out).mono ?_
   rintro e w10 ⟨rfl, hb⟩
   refine ⟨_, rfl, ?_⟩
   replace BK178 := Aside0.mk (blk_below (g := gb178) (o := .cells #[.string a0_0, .int .i64 a0_1, .string a0_2, .int .i64 a0_3, .bool a0_4] 70 (0, 0)) bk hb)
   replace BK179 := Aside0.mk (blk_below (g := gb179) (o := .cells #[.string a1_0, .int .i64 a1_1] 28 (0, 0)) bk hb)
   replace HB := Aside0.mk (below_step bz hb)
   (try clear hb)
   (try clear hb2)
   (try clear hk)
   (try clear hi)
   refine hK.out _ _ ⟨(blk_cell BK179.out 0).trans rfl, (blk_cell BK179.out 1).trans rfl, (blk_cell BK178.out 0).trans rfl, (blk_cell BK178.out 1).trans rfl, (blk_cell BK178.out 2).trans rfl, (blk_cell BK178.out 3).trans rfl, (blk_cell BK178.out 4).trans rfl⟩ (fun hHeld => ?_)
   clear hK K
   refine norm_ (a' := ?_) ?_ ?_
   rotate_left
   ·show Act.put _ (some 10) _ = _
    simp only [Act.put, List.setIfInBounds_toArray, List.set_cons_zero, List.set_cons_succ, i64_w, i32_w]
    rfl
   refine one_ (i := 7) (N := some 14) #[true, true, true, true, true, true, true, true, false, false] rfl rfl (one_of HT_.out (by kernel_rfl)) (by decide) (fun K hK => ?_)
   refine goes_ Tryd.func34 (by kernel_rfl) rfl #[.agg #[.string a1_0, .int .i64 a1_1], .agg #[.string a0_2, .int .i64 a0_3]] (by rfl) rfl rfl lz ?_
   with_reducible refine (short_cmp.calls k a1_0 a1_1 a0_2 a0_3 t181 _ A4.out).mono ?_
   rintro e w11 ⟨rfl, hb⟩
   refine ⟨_, rfl, ?_⟩
   replace BK178 := Aside0.mk (blk_below (g := gb178) (o := .cells #[.string a0_0, .int .i64 a0_1, .string a0_2, .int .i64 a0_3, .bool a0_4] 70 (0, 0)) bk hb)
   replace BK179 := Aside0.mk (blk_below (g := gb179) (o := .cells #[.string a1_0, .int .i64 a1_1] 28 (0, 0)) bk hb)
   replace HB := Aside0.mk (below_step bz hb)
   (try clear hb)
   (try clear hb2)
   (try clear hk)
   (try clear hi)
   refine hK.out _ _ ⟨(blk_cell BK179.out 0).trans rfl, (blk_cell BK179.out 1).trans rfl, (blk_cell BK178.out 0).trans rfl, (blk_cell BK178.out 1).trans rfl, (blk_cell BK178.out 2).trans rfl, (blk_cell BK178.out 3).trans rfl, (blk_cell BK178.out 4).trans rfl⟩ (fun hHeld => ?_)
   clear hK K
   refine norm_ (a' := ?_) ?_ ?_
   rotate_left
   ·show Act.put _ (some 14) _ = _
    simp only [Act.put, List.setIfInBounds_toArray, List.set_cons_zero, List.set_cons_succ, i64_w, i32_w]
    rfl
   refine pure_ (i := 8) (N := some 5) (v := ?_) (a' := ?_) #[true, true, true, true, true, true, true, true, true, false] rfl rfl (any_of HT_.out (by kernel_rfl)) (fun _ _ _ h => h) (Or.inl ⟨by rfl, ?_⟩) ?_ ?_
   rotate_left
   ·intro w'
    go_simp
    with_reducible rfl
   rotate_left
   ·simp only [Act.put, List.setIfInBounds_toArray, List.set_cons_zero, List.set_cons_succ, i64_w, i32_w]
    rfl
   refine pure_ (i := 9) (N := some 6) (v := ?_) (a' := ?_) #[true, true, true, true, true, true, true, true, true, true] rfl rfl (any_of HT_.out (by kernel_rfl)) (fun _ _ _ h => h) (Or.inl ⟨by rfl, ?_⟩) ?_ ?_
   rotate_left
   ·intro w'
    go_simp
    with_reducible rfl
   rotate_left
   ·simp only [Act.put, List.setIfInBounds_toArray, List.set_cons_zero, List.set_cons_succ, i64_w, i32_w]
    rfl
   refine done_ (done_of HT_.out (by kernel_rfl)) ?_
   try go_wp2
   go_ret
   exact ⟨ez, bz⟩
  ·rw [if_neg c6] at H
   have c6b0 := decide_eq_false c6
   clear c6
   by_cases c12 : a0_4 = true
   ·subst c12
    replace H := hT H
    by_cases c13 : t180 ≥ 0
    ·rw [if_pos c13] at H
     have c13b0 : decide (0 ≤ t180) = true := decide_eq_true c13
     clear c13
     obtain rfl := Option.some.inj H
     go_enter Tryd.func42, Tryd.ntmps42
     try go_wp2_with (first | ((with_reducible refine gate_dst (N := 2) rfl ?_); refine box_event rfl (N := 2) rfl (cs := #[.string a0_0, .int .i64 a0_1, .string a0_2, .int .i64 a0_3, .bool true]) (t := 70) gz ?_; intro gb178 hg w14 hbox hb; have GW178 := gN bz hg; have GE178 := gN bz hg; have BK178 := Aside0.mk hbox; replace HB := bN bz hb; clear hb hbox hg) | ((with_reducible refine gate_dst (N := 3) rfl ?_); refine box_event rfl (N := 3) rfl (cs := #[.string a1_0, .int .i64 a1_1]) (t := 28) gz ?_; intro gb179 hg w15 hbox hb; have GW179 := gN bz hg; have GE179 := gN bz hg; have NB178_179 := lN (g := gb178) (cs := #[.string a0_0, .int .i64 a0_1, .string a0_2, .int .i64 a0_3, .bool true]) hg bk; have NB179_178 := rN (g := gb178) (cs := #[.string a0_0, .int .i64 a0_1, .string a0_2, .int .i64 a0_3, .bool true]) hg bk; replace BK178 := kN (g := gb178) (cs := #[.string a0_0, .int .i64 a0_1, .string a0_2, .int .i64 a0_3, .bool true]) hb bk; have BK179 := Aside0.mk hbox; replace HB := bN bz hb; clear hb hbox hg))
     replace BK178 := Aside0.mk (blk_drew BK178.out)
     replace BK179 := Aside0.mk (blk_drew BK179.out)
     replace HB := Aside0.mk (below_drew1 HB.out)
     refine start_ (n := 10) (S := fun w' => w'.cell? ⟨gb179, 0, none⟩ = some (.string a1_0) ∧ w'.cell? ⟨gb179, 1, none⟩ = some (.int .i64 a1_1) ∧ w'.cell? ⟨gb178, 0, none⟩ = some (.string a0_0) ∧ w'.cell? ⟨gb178, 1, none⟩ = some (.int .i64 a0_1) ∧ w'.cell? ⟨gb178, 2, none⟩ = some (.string a0_2) ∧ w'.cell? ⟨gb178, 3, none⟩ = some (.int .i64 a0_3) ∧ w'.cell? ⟨gb178, 4, none⟩ = some (.bool true)) (ds := []) #[false, false, false, false, false, false, false, false, false, false] (by kernel_rfl) rfl rfl ⟨(blk_cell BK179.out 0).trans rfl, (blk_cell BK179.out 1).trans rfl, (blk_cell BK178.out 0).trans rfl, (blk_cell BK178.out 1).trans rfl, (blk_cell BK178.out 2).trans rfl, (blk_cell BK178.out 3).trans rfl, (blk_cell BK178.out 4).trans rfl⟩ (fun hHeld => ?_); refine with_tabW short_span_in.tab1 short_span_in.bits1 (fun HT_ HW_ => ?_)
     generalize w15.drew = w16 at BK178 BK179 HB hHeld ⊢
     refine pure_ (i := 1) (N := some 8) (v := ?_) (a' := ?_) #[false, true, false, false, false, false, false, false, false, false] rfl rfl (any_of HT_.out (by kernel_rfl)) (fun _ _ _ h => h) (Or.inl ⟨by rfl, ?_⟩) ?_ ?_
     rotate_left
     ·intro w'
      go_simp
      with_reducible rfl
     rotate_left
     ·simp only [Act.put, List.setIfInBounds_toArray, List.set_cons_zero, List.set_cons_succ, i64_w, i32_w]
      rfl
     refine pure_ (i := 5) (N := some 12) (v := ?_) (a' := ?_) #[false, true, false, false, false, true, false, false, false, false] rfl rfl (any_of HT_.out (by kernel_rfl)) (fun _ _ _ h => h) (Or.inl ⟨by rfl, ?_⟩) ?_ ?_
     rotate_left
     ·intro w'
      go_simp
      with_reducible rfl
     rotate_left
     ·simp only [Act.put, List.setIfInBounds_toArray, List.set_cons_zero, List.set_cons_succ, i64_w, i32_w]
      rfl
     refine take_ (i := 0) (N := some 7) (v := ?_) (a' := ?_) #[true, true, false, false, false, true, false, false, false, false] rfl rfl (take_ofW HT_.out HW_.out (by kernel_rfl)) (fun _ _ _ h => h) (Or.inl ⟨by rfl, ?_⟩) hHeld ?_ ?_
     rotate_left
     ·rintro w' ⟨s0, s1, s2, s3, s4, s5, s6⟩
      go_simp
      with_reducible rfl
     rotate_left
     ·simp only [Act.put, List.setIfInBounds_toArray, List.set_cons_zero, List.set_cons_succ, i64_w, i32_w]
      rfl
     refine take_ (i := 2) (N := some 9) (v := ?_) (a' := ?_) #[true, true, true, false, false, true, false, false, false, false] rfl rfl (take_ofW HT_.out HW_.out (by kernel_rfl)) (fun _ _ _ h => h) (Or.inl ⟨by rfl, ?_⟩) hHeld ?_ ?_
     rotate_left
     ·rintro w' ⟨s0, s1, s2, s3, s4, s5, s6⟩
      go_simp
      with_reducible rfl
     rotate_left
     ·simp only [Act.put, List.setIfInBounds_toArray, List.set_cons_zero, List.set_cons_succ, i64_w, i32_w]
      rfl
     refine take_ (i := 4) (N := some 11) (v := ?_) (a' := ?_) #[true, true, true, false, true, true, false, false, false, false] rfl rfl (take_ofW HT_.out HW_.out (by kernel_rfl)) (fun _ _ _ h => h) (Or.inl ⟨by rfl, ?_⟩) hHeld ?_ ?_
     rotate_left
     ·rintro w' ⟨s0, s1, s2, s3, s4, s5, s6⟩
      go_simp
      with_reducible rfl
     rotate_left
     ·simp only [Act.put, List.setIfInBounds_toArray, List.set_cons_zero, List.set_cons_succ, i64_w, i32_w]
      rfl
     refine take_ (i := 6) (N := some 13) (v := ?_) (a' := ?_) #[true, true, true, false, true, true, true, false, false, false] rfl rfl (take_ofW HT_.out HW_.out (by kernel_rfl)) (fun _ _ _ h => h) (Or.inl ⟨by rfl, ?_⟩) hHeld ?_ ?_
     rotate_left
     ·rintro w' ⟨s0, s1, s2, s3, s4, s5, s6⟩
      go_simp
      with_reducible rfl
     rotate_left
     ·simp only [Act.put, List.setIfInBounds_toArray, List.set_cons_zero, List.set_cons_succ, i64_w, i32_w]
      rfl
     refine one_ (i := 3) (N := some 10) #[true, true, true, true, true, true, true, false, false, false] rfl rfl (one_of HT_.out (by kernel_rfl)) (by decide) (fun K hK => ?_)
     refine goes_ Tryd.func34 (by kernel_rfl) rfl #[.agg #[.string a1_0, .int .i64 a1_1], .agg #[.string a0_0, .int .i64 a0_1]] (by rfl) rfl rfl lz ?_
     with_reducible refine (short_cmp.calls k a1_0 a1_1 a0_0 a0_1 t180 _ A3.out).mono ?_
     rintro e w17 ⟨rfl, hb⟩
     refine ⟨_, rfl, ?_⟩
     replace BK178 := Aside0.mk (blk_below (g := gb178) (o := .cells #[.string a0_0, .int .i64 a0_1, .string a0_2, .int .i64 a0_3, .bool true] 70 (0, 0)) bk hb)
     replace BK179 := Aside0.mk (blk_below (g := gb179) (o := .cells #[.string a1_0, .int .i64 a1_1] 28 (0, 0)) bk hb)
     replace HB := Aside0.mk (below_step bz hb)
     (try clear hb)
     (try clear hb2)
     (try clear hk)
     (try clear hi)
     refine hK.out _ _ ⟨(blk_cell BK179.out 0).trans rfl, (blk_cell BK179.out 1).trans rfl, (blk_cell BK178.out 0).trans rfl, (blk_cell BK178.out 1).trans rfl, (blk_cell BK178.out 2).trans rfl, (blk_cell BK178.out 3).trans rfl, (blk_cell BK178.out 4).trans rfl⟩ (fun hHeld => ?_)
     clear hK K
     refine norm_ (a' := ?_) ?_ ?_
     rotate_left
     ·show Act.put _ (some 10) _ = _
      simp only [Act.put, List.setIfInBounds_toArray, List.set_cons_zero, List.set_cons_succ, i64_w, i32_w]
      rfl
     refine one_ (i := 7) (N := some 14) #[true, true, true, true, true, true, true, true, false, false] rfl rfl (one_of HT_.out (by kernel_rfl)) (by decide) (fun K hK => ?_)
     refine goes_ Tryd.func34 (by kernel_rfl) rfl #[.agg #[.string a1_0, .int .i64 a1_1], .agg #[.string a0_2, .int .i64 a0_3]] (by rfl) rfl rfl lz ?_
     with_reducible refine (short_cmp.calls k a1_0 a1_1 a0_2 a0_3 t181 _ A4.out).mono ?_
     rintro e w18 ⟨rfl, hb⟩
     refine ⟨_, rfl, ?_⟩
     replace BK178 := Aside0.mk (blk_below (g := gb178) (o := .cells #[.string a0_0, .int .i64 a0_1, .string a0_2, .int .i64 a0_3, .bool true] 70 (0, 0)) bk hb)
     replace BK179 := Aside0.mk (blk_below (g := gb179) (o := .cells #[.string a1_0, .int .i64 a1_1] 28 (0, 0)) bk hb)
     replace HB := Aside0.mk (below_step bz hb)
     (try clear hb)
     (try clear hb2)
     (try clear hk)
     (try clear hi)
     refine hK.out _ _ ⟨(blk_cell BK179.out 0).trans rfl, (blk_cell BK179.out 1).trans rfl, (blk_cell BK178.out 0).trans rfl, (blk_cell BK178.out 1).trans rfl, (blk_cell BK178.out 2).trans rfl, (blk_cell BK178.out 3).trans rfl, (blk_cell BK178.out 4).trans rfl⟩ (fun hHeld => ?_)
     clear hK K
     refine norm_ (a' := ?_) ?_ ?_
     rotate_left
     ·show Act.put _ (some 14) _ = _
      simp only [Act.put, List.setIfInBounds_toArray, List.set_cons_zero, List.set_cons_succ, i64_w, i32_w]
      rfl
     refine pure_ (i := 8) (N := some 5) (v := ?_) (a' := ?_) #[true, true, true, true, true, true, true, true, true, false] rfl rfl (any_of HT_.out (by kernel_rfl)) (fun _ _ _ h => h) (Or.inl ⟨by rfl, ?_⟩) ?_ ?_
     rotate_left
     ·intro w'
      go_simp
      with_reducible rfl
     rotate_left
     ·simp only [Act.put, List.setIfInBounds_toArray, List.set_cons_zero, List.set_cons_succ, i64_w, i32_w]
      rfl
     refine pure_ (i := 9) (N := some 6) (v := ?_) (a' := ?_) #[true, true, true, true, true, true, true, true, true, true] rfl rfl (any_of HT_.out (by kernel_rfl)) (fun _ _ _ h => h) (Or.inl ⟨by rfl, ?_⟩) ?_ ?_
     rotate_left
     ·intro w'
      go_simp
      with_reducible rfl
     rotate_left
     ·simp only [Act.put, List.setIfInBounds_toArray, List.set_cons_zero, List.set_cons_succ, i64_w, i32_w]
      rfl
     refine done_ (done_of HT_.out (by kernel_rfl)) ?_
     have hnb19 := NB178_179.out
     have hnc19 := NB179_178.out
     obtain ⟨hcz20_0, hcz20_1, hcz20_2, hcz20_3, hcz20_4, hfz20_0, hfz20_1, hfz20_2, hfz20_3, hfz20_4⟩ := cz5 (W := w18) BK178
     try go_wp2
     go_ret
     exact ⟨ez, bz⟩
    ·rw [if_neg c13] at H
     have c13b0 : decide (0 ≤ t180) = false := decide_eq_false c13
     clear c13
     obtain rfl := Option.some.inj H
     go_enter Tryd.func42, Tryd.ntmps42
     try go_wp2_with (first | ((with_reducible refine gate_dst (N := 2) rfl ?_); refine box_event rfl (N := 2) rfl (cs := #[.string a0_0, .int .i64 a0_1, .string a0_2, .int .i64 a0_3, .bool true]) (t := 70) gz ?_; intro gb178 hg w21 hbox hb; have GW178 := gN bz hg; have GE178 := gN bz hg; have BK178 := Aside0.mk hbox; replace HB := bN bz hb; clear hb hbox hg) | ((with_reducible refine gate_dst (N := 3) rfl ?_); refine box_event rfl (N := 3) rfl (cs := #[.string a1_0, .int .i64 a1_1]) (t := 28) gz ?_; intro gb179 hg w22 hbox hb; have GW179 := gN bz hg; have GE179 := gN bz hg; have NB178_179 := lN (g := gb178) (cs := #[.string a0_0, .int .i64 a0_1, .string a0_2, .int .i64 a0_3, .bool true]) hg bk; have NB179_178 := rN (g := gb178) (cs := #[.string a0_0, .int .i64 a0_1, .string a0_2, .int .i64 a0_3, .bool true]) hg bk; replace BK178 := kN (g := gb178) (cs := #[.string a0_0, .int .i64 a0_1, .string a0_2, .int .i64 a0_3, .bool true]) hb bk; have BK179 := Aside0.mk hbox; replace HB := bN bz hb; clear hb hbox hg))
     replace BK178 := Aside0.mk (blk_drew BK178.out)
     replace BK179 := Aside0.mk (blk_drew BK179.out)
     replace HB := Aside0.mk (below_drew1 HB.out)
     refine start_ (n := 10) (S := fun w' => w'.cell? ⟨gb179, 0, none⟩ = some (.string a1_0) ∧ w'.cell? ⟨gb179, 1, none⟩ = some (.int .i64 a1_1) ∧ w'.cell? ⟨gb178, 0, none⟩ = some (.string a0_0) ∧ w'.cell? ⟨gb178, 1, none⟩ = some (.int .i64 a0_1) ∧ w'.cell? ⟨gb178, 2, none⟩ = some (.string a0_2) ∧ w'.cell? ⟨gb178, 3, none⟩ = some (.int .i64 a0_3) ∧ w'.cell? ⟨gb178, 4, none⟩ = some (.bool true)) (ds := []) #[false, false, false, false, false, false, false, false, false, false] (by kernel_rfl) rfl rfl ⟨(blk_cell BK179.out 0).trans rfl, (blk_cell BK179.out 1).trans rfl, (blk_cell BK178.out 0).trans rfl, (blk_cell BK178.out 1).trans rfl, (blk_cell BK178.out 2).trans rfl, (blk_cell BK178.out 3).trans rfl, (blk_cell BK178.out 4).trans rfl⟩ (fun hHeld => ?_); refine with_tabW short_span_in.tab1 short_span_in.bits1 (fun HT_ HW_ => ?_)
     generalize w22.drew = w23 at BK178 BK179 HB hHeld ⊢
     refine pure_ (i := 1) (N := some 8) (v := ?_) (a' := ?_) #[false, true, false, false, false, false, false, false, false, false] rfl rfl (any_of HT_.out (by kernel_rfl)) (fun _ _ _ h => h) (Or.inl ⟨by rfl, ?_⟩) ?_ ?_
     rotate_left
     ·intro w'
      go_simp
      with_reducible rfl
     rotate_left
     ·simp only [Act.put, List.setIfInBounds_toArray, List.set_cons_zero, List.set_cons_succ, i64_w, i32_w]
      rfl
     refine pure_ (i := 5) (N := some 12) (v := ?_) (a' := ?_) #[false, true, false, false, false, true, false, false, false, false] rfl rfl (any_of HT_.out (by kernel_rfl)) (fun _ _ _ h => h) (Or.inl ⟨by rfl, ?_⟩) ?_ ?_
     rotate_left
     ·intro w'
      go_simp
      with_reducible rfl
     rotate_left
     ·simp only [Act.put, List.setIfInBounds_toArray, List.set_cons_zero, List.set_cons_succ, i64_w, i32_w]
      rfl
     refine take_ (i := 0) (N := some 7) (v := ?_) (a' := ?_) #[true, true, false, false, false, true, false, false, false, false] rfl rfl (take_ofW HT_.out HW_.out (by kernel_rfl)) (fun _ _ _ h => h) (Or.inl ⟨by rfl, ?_⟩) hHeld ?_ ?_
     rotate_left
     ·rintro w' ⟨s0, s1, s2, s3, s4, s5, s6⟩
      go_simp
      with_reducible rfl
     rotate_left
     ·simp only [Act.put, List.setIfInBounds_toArray, List.set_cons_zero, List.set_cons_succ, i64_w, i32_w]
      rfl
     refine take_ (i := 2) (N := some 9) (v := ?_) (a' := ?_) #[true, true, true, false, false, true, false, false, false, false] rfl rfl (take_ofW HT_.out HW_.out (by kernel_rfl)) (fun _ _ _ h => h) (Or.inl ⟨by rfl, ?_⟩) hHeld ?_ ?_
     rotate_left
     ·rintro w' ⟨s0, s1, s2, s3, s4, s5, s6⟩
      go_simp
      with_reducible rfl
     rotate_left
     ·simp only [Act.put, List.setIfInBounds_toArray, List.set_cons_zero, List.set_cons_succ, i64_w, i32_w]
      rfl
     refine take_ (i := 4) (N := some 11) (v := ?_) (a' := ?_) #[true, true, true, false, true, true, false, false, false, false] rfl rfl (take_ofW HT_.out HW_.out (by kernel_rfl)) (fun _ _ _ h => h) (Or.inl ⟨by rfl, ?_⟩) hHeld ?_ ?_
     rotate_left
     ·rintro w' ⟨s0, s1, s2, s3, s4, s5, s6⟩
      go_simp
      with_reducible rfl
     rotate_left
     ·simp only [Act.put, List.setIfInBounds_toArray, List.set_cons_zero, List.set_cons_succ, i64_w, i32_w]
      rfl
     refine take_ (i := 6) (N := some 13) (v := ?_) (a' := ?_) #[true, true, true, false, true, true, true, false, false, false] rfl rfl (take_ofW HT_.out HW_.out (by kernel_rfl)) (fun _ _ _ h => h) (Or.inl ⟨by rfl, ?_⟩) hHeld ?_ ?_
     rotate_left
     ·rintro w' ⟨s0, s1, s2, s3, s4, s5, s6⟩
      go_simp
      with_reducible rfl
     rotate_left
     ·simp only [Act.put, List.setIfInBounds_toArray, List.set_cons_zero, List.set_cons_succ, i64_w, i32_w]
      rfl
     refine one_ (i := 3) (N := some 10) #[true, true, true, true, true, true, true, false, false, false] rfl rfl (one_of HT_.out (by kernel_rfl)) (by decide) (fun K hK => ?_)
     refine goes_ Tryd.func34 (by kernel_rfl) rfl #[.agg #[.string a1_0, .int .i64 a1_1], .agg #[.string a0_0, .int .i64 a0_1]] (by rfl) rfl rfl lz ?_
     with_reducible refine (short_cmp.calls k a1_0 a1_1 a0_0 a0_1 t180 _ A3.out).mono ?_
     rintro e w24 ⟨rfl, hb⟩
     refine ⟨_, rfl, ?_⟩
     replace BK178 := Aside0.mk (blk_below (g := gb178) (o := .cells #[.string a0_0, .int .i64 a0_1, .string a0_2, .int .i64 a0_3, .bool true] 70 (0, 0)) bk hb)
     replace BK179 := Aside0.mk (blk_below (g := gb179) (o := .cells #[.string a1_0, .int .i64 a1_1] 28 (0, 0)) bk hb)
     replace HB := Aside0.mk (below_step bz hb)
     (try clear hb)
     (try clear hb2)
     (try clear hk)
     (try clear hi)
     refine hK.out _ _ ⟨(blk_cell BK179.out 0).trans rfl, (blk_cell BK179.out 1).trans rfl, (blk_cell BK178.out 0).trans rfl, (blk_cell BK178.out 1).trans rfl, (blk_cell BK178.out 2).trans rfl, (blk_cell BK178.out 3).trans rfl, (blk_cell BK178.out 4).trans rfl⟩ (fun hHeld => ?_)
     clear hK K
     refine norm_ (a' := ?_) ?_ ?_
     rotate_left
     ·show Act.put _ (some 10) _ = _
      simp only [Act.put, List.setIfInBounds_toArray, List.set_cons_zero, List.set_cons_succ, i64_w, i32_w]
      rfl
     refine one_ (i := 7) (N := some 14) #[true, true, true, true, true, true, true, true, false, false] rfl rfl (one_of HT_.out (by kernel_rfl)) (by decide) (fun K hK => ?_)
     refine goes_ Tryd.func34 (by kernel_rfl) rfl #[.agg #[.string a1_0, .int .i64 a1_1], .agg #[.string a0_2, .int .i64 a0_3]] (by rfl) rfl rfl lz ?_
     with_reducible refine (short_cmp.calls k a1_0 a1_1 a0_2 a0_3 t181 _ A4.out).mono ?_
     rintro e w25 ⟨rfl, hb⟩
     refine ⟨_, rfl, ?_⟩
     replace BK178 := Aside0.mk (blk_below (g := gb178) (o := .cells #[.string a0_0, .int .i64 a0_1, .string a0_2, .int .i64 a0_3, .bool true] 70 (0, 0)) bk hb)
     replace BK179 := Aside0.mk (blk_below (g := gb179) (o := .cells #[.string a1_0, .int .i64 a1_1] 28 (0, 0)) bk hb)
     replace HB := Aside0.mk (below_step bz hb)
     (try clear hb)
     (try clear hb2)
     (try clear hk)
     (try clear hi)
     refine hK.out _ _ ⟨(blk_cell BK179.out 0).trans rfl, (blk_cell BK179.out 1).trans rfl, (blk_cell BK178.out 0).trans rfl, (blk_cell BK178.out 1).trans rfl, (blk_cell BK178.out 2).trans rfl, (blk_cell BK178.out 3).trans rfl, (blk_cell BK178.out 4).trans rfl⟩ (fun hHeld => ?_)
     clear hK K
     refine norm_ (a' := ?_) ?_ ?_
     rotate_left
     ·show Act.put _ (some 14) _ = _
      simp only [Act.put, List.setIfInBounds_toArray, List.set_cons_zero, List.set_cons_succ, i64_w, i32_w]
      rfl
     refine pure_ (i := 8) (N := some 5) (v := ?_) (a' := ?_) #[true, true, true, true, true, true, true, true, true, false] rfl rfl (any_of HT_.out (by kernel_rfl)) (fun _ _ _ h => h) (Or.inl ⟨by rfl, ?_⟩) ?_ ?_
     rotate_left
     ·intro w'
      go_simp
      with_reducible rfl
     rotate_left
     ·simp only [Act.put, List.setIfInBounds_toArray, List.set_cons_zero, List.set_cons_succ, i64_w, i32_w]
      rfl
     refine pure_ (i := 9) (N := some 6) (v := ?_) (a' := ?_) #[true, true, true, true, true, true, true, true, true, true] rfl rfl (any_of HT_.out (by kernel_rfl)) (fun _ _ _ h => h) (Or.inl ⟨by rfl, ?_⟩) ?_ ?_
     rotate_left
     ·intro w'
      go_simp
      with_reducible rfl
     rotate_left
     ·simp only [Act.put, List.setIfInBounds_toArray, List.set_cons_zero, List.set_cons_succ, i64_w, i32_w]
      rfl
     refine done_ (done_of HT_.out (by kernel_rfl)) ?_
     have hnb26 := NB178_179.out
     have hnc26 := NB179_178.out
     obtain ⟨hcz27_0, hcz27_1, hcz27_2, hcz27_3, hcz27_4, hfz27_0, hfz27_1, hfz27_2, hfz27_3, hfz27_4⟩ := cz5 (W := w25) BK178
     try go_wp2
     go_ret
     exact ⟨ez, bz⟩
   ·replace c12 := Bool.eq_false_iff.mpr c12
    subst c12
    replace H := hF H
    obtain rfl := Option.some.inj H
    go_enter Tryd.func42, Tryd.ntmps42
    try go_wp2_with (first | ((with_reducible refine gate_dst (N := 2) rfl ?_); refine box_event rfl (N := 2) rfl (cs := #[.string a0_0, .int .i64 a0_1, .string a0_2, .int .i64 a0_3, .bool false]) (t := 70) gz ?_; intro gb178 hg w28 hbox hb; have GW178 := gN bz hg; have GE178 := gN bz hg; have BK178 := Aside0.mk hbox; replace HB := bN bz hb; clear hb hbox hg) | ((with_reducible refine gate_dst (N := 3) rfl ?_); refine box_event rfl (N := 3) rfl (cs := #[.string a1_0, .int .i64 a1_1]) (t := 28) gz ?_; intro gb179 hg w29 hbox hb; have GW179 := gN bz hg; have GE179 := gN bz hg; have NB178_179 := lN (g := gb178) (cs := #[.string a0_0, .int .i64 a0_1, .string a0_2, .int .i64 a0_3, .bool false]) hg bk; have NB179_178 := rN (g := gb178) (cs := #[.string a0_0, .int .i64 a0_1, .string a0_2, .int .i64 a0_3, .bool false]) hg bk; replace BK178 := kN (g := gb178) (cs := #[.string a0_0, .int .i64 a0_1, .string a0_2, .int .i64 a0_3, .bool false]) hb bk; have BK179 := Aside0.mk hbox; replace HB := bN bz hb; clear hb hbox hg))
    replace BK178 := Aside0.mk (blk_drew BK178.out)
    replace BK179 := Aside0.mk (blk_drew BK179.out)
    replace HB := Aside0.mk (below_drew1 HB.out)
    refine start_ (n := 10) (S := fun w' => w'.cell? ⟨gb179, 0, none⟩ = some (.string a1_0) ∧ w'.cell? ⟨gb179, 1, none⟩ = some (.int .i64 a1_1) ∧ w'.cell? ⟨gb178, 0, none⟩ = some (.string a0_0) ∧ w'.cell? ⟨gb178, 1, none⟩ = some (.int .i64 a0_1) ∧ w'.cell? ⟨gb178, 2, none⟩ = some (.string a0_2) ∧ w'.cell? ⟨gb178, 3, none⟩ = some (.int .i64 a0_3) ∧ w'.cell? ⟨gb178, 4, none⟩ = some (.bool false)) (ds := []) #[false, false, false, false, false, false, false, false, false, false] (by kernel_rfl) rfl rfl ⟨(blk_cell BK179.out 0).trans rfl, (blk_cell BK179.out 1).trans rfl, (blk_cell BK178.out 0).trans rfl, (blk_cell BK178.out 1).trans rfl, (blk_cell BK178.out 2).trans rfl, (blk_cell BK178.out 3).trans rfl, (blk_cell BK178.out 4).trans rfl⟩ (fun hHeld => ?_); refine with_tabW short_span_in.tab1 short_span_in.bits1 (fun HT_ HW_ => ?_)
    generalize w29.drew = w30 at BK178 BK179 HB hHeld ⊢
    refine pure_ (i := 1) (N := some 8) (v := ?_) (a' := ?_) #[false, true, false, false, false, false, false, false, false, false] rfl rfl (any_of HT_.out (by kernel_rfl)) (fun _ _ _ h => h) (Or.inl ⟨by rfl, ?_⟩) ?_ ?_
    rotate_left
    ·intro w'
     go_simp
     with_reducible rfl
    rotate_left
    ·simp only [Act.put, List.setIfInBounds_toArray, List.set_cons_zero, List.set_cons_succ, i64_w, i32_w]
     rfl
    refine pure_ (i := 5) (N := some 12) (v := ?_) (a' := ?_) #[false, true, false, false, false, true, false, false, false, false] rfl rfl (any_of HT_.out (by kernel_rfl)) (fun _ _ _ h => h) (Or.inl ⟨by rfl, ?_⟩) ?_ ?_
    rotate_left
    ·intro w'
     go_simp
     with_reducible rfl
    rotate_left
    ·simp only [Act.put, List.setIfInBounds_toArray, List.set_cons_zero, List.set_cons_succ, i64_w, i32_w]
     rfl
    refine take_ (i := 0) (N := some 7) (v := ?_) (a' := ?_) #[true, true, false, false, false, true, false, false, false, false] rfl rfl (take_ofW HT_.out HW_.out (by kernel_rfl)) (fun _ _ _ h => h) (Or.inl ⟨by rfl, ?_⟩) hHeld ?_ ?_
    rotate_left
    ·rintro w' ⟨s0, s1, s2, s3, s4, s5, s6⟩
     go_simp
     with_reducible rfl
    rotate_left
    ·simp only [Act.put, List.setIfInBounds_toArray, List.set_cons_zero, List.set_cons_succ, i64_w, i32_w]
     rfl
    refine take_ (i := 2) (N := some 9) (v := ?_) (a' := ?_) #[true, true, true, false, false, true, false, false, false, false] rfl rfl (take_ofW HT_.out HW_.out (by kernel_rfl)) (fun _ _ _ h => h) (Or.inl ⟨by rfl, ?_⟩) hHeld ?_ ?_
    rotate_left
    ·rintro w' ⟨s0, s1, s2, s3, s4, s5, s6⟩
     go_simp
     with_reducible rfl
    rotate_left
    ·simp only [Act.put, List.setIfInBounds_toArray, List.set_cons_zero, List.set_cons_succ, i64_w, i32_w]
     rfl
    refine take_ (i := 4) (N := some 11) (v := ?_) (a' := ?_) #[true, true, true, false, true, true, false, false, false, false] rfl rfl (take_ofW HT_.out HW_.out (by kernel_rfl)) (fun _ _ _ h => h) (Or.inl ⟨by rfl, ?_⟩) hHeld ?_ ?_
    rotate_left
    ·rintro w' ⟨s0, s1, s2, s3, s4, s5, s6⟩
     go_simp
     with_reducible rfl
    rotate_left
    ·simp only [Act.put, List.setIfInBounds_toArray, List.set_cons_zero, List.set_cons_succ, i64_w, i32_w]
     rfl
    refine take_ (i := 6) (N := some 13) (v := ?_) (a' := ?_) #[true, true, true, false, true, true, true, false, false, false] rfl rfl (take_ofW HT_.out HW_.out (by kernel_rfl)) (fun _ _ _ h => h) (Or.inl ⟨by rfl, ?_⟩) hHeld ?_ ?_
    rotate_left
    ·rintro w' ⟨s0, s1, s2, s3, s4, s5, s6⟩
     go_simp
     with_reducible rfl
    rotate_left
    ·simp only [Act.put, List.setIfInBounds_toArray, List.set_cons_zero, List.set_cons_succ, i64_w, i32_w]
     rfl
    refine one_ (i := 3) (N := some 10) #[true, true, true, true, true, true, true, false, false, false] rfl rfl (one_of HT_.out (by kernel_rfl)) (by decide) (fun K hK => ?_)
    refine goes_ Tryd.func34 (by kernel_rfl) rfl #[.agg #[.string a1_0, .int .i64 a1_1], .agg #[.string a0_0, .int .i64 a0_1]] (by rfl) rfl rfl lz ?_
    with_reducible refine (short_cmp.calls k a1_0 a1_1 a0_0 a0_1 t180 _ A3.out).mono ?_
    rintro e w31 ⟨rfl, hb⟩
    refine ⟨_, rfl, ?_⟩
    replace BK178 := Aside0.mk (blk_below (g := gb178) (o := .cells #[.string a0_0, .int .i64 a0_1, .string a0_2, .int .i64 a0_3, .bool false] 70 (0, 0)) bk hb)
    replace BK179 := Aside0.mk (blk_below (g := gb179) (o := .cells #[.string a1_0, .int .i64 a1_1] 28 (0, 0)) bk hb)
    replace HB := Aside0.mk (below_step bz hb)
    (try clear hb)
    (try clear hb2)
    (try clear hk)
    (try clear hi)
    refine hK.out _ _ ⟨(blk_cell BK179.out 0).trans rfl, (blk_cell BK179.out 1).trans rfl, (blk_cell BK178.out 0).trans rfl, (blk_cell BK178.out 1).trans rfl, (blk_cell BK178.out 2).trans rfl, (blk_cell BK178.out 3).trans rfl, (blk_cell BK178.out 4).trans rfl⟩ (fun hHeld => ?_)
    clear hK K
    refine norm_ (a' := ?_) ?_ ?_
    rotate_left
    ·show Act.put _ (some 10) _ = _
     simp only [Act.put, List.setIfInBounds_toArray, List.set_cons_zero, List.set_cons_succ, i64_w, i32_w]
     rfl
    refine one_ (i := 7) (N := some 14) #[true, true, true, true, true, true, true, true, false, false] rfl rfl (one_of HT_.out (by kernel_rfl)) (by decide) (fun K hK => ?_)
    refine goes_ Tryd.func34 (by kernel_rfl) rfl #[.agg #[.string a1_0, .int .i64 a1_1], .agg #[.string a0_2, .int .i64 a0_3]] (by rfl) rfl rfl lz ?_
    with_reducible refine (short_cmp.calls k a1_0 a1_1 a0_2 a0_3 t181 _ A4.out).mono ?_
    rintro e w32 ⟨rfl, hb⟩
    refine ⟨_, rfl, ?_⟩
    replace BK178 := Aside0.mk (blk_below (g := gb178) (o := .cells #[.string a0_0, .int .i64 a0_1, .string a0_2, .int .i64 a0_3, .bool false] 70 (0, 0)) bk hb)
    replace BK179 := Aside0.mk (blk_below (g := gb179) (o := .cells #[.string a1_0, .int .i64 a1_1] 28 (0, 0)) bk hb)
    replace HB := Aside0.mk (below_step bz hb)
    (try clear hb)
    (try clear hb2)
    (try clear hk)
    (try clear hi)
    refine hK.out _ _ ⟨(blk_cell BK179.out 0).trans rfl, (blk_cell BK179.out 1).trans rfl, (blk_cell BK178.out 0).trans rfl, (blk_cell BK178.out 1).trans rfl, (blk_cell BK178.out 2).trans rfl, (blk_cell BK178.out 3).trans rfl, (blk_cell BK178.out 4).trans rfl⟩ (fun hHeld => ?_)
    clear hK K
    refine norm_ (a' := ?_) ?_ ?_
    rotate_left
    ·show Act.put _ (some 14) _ = _
     simp only [Act.put, List.setIfInBounds_toArray, List.set_cons_zero, List.set_cons_succ, i64_w, i32_w]
     rfl
    refine pure_ (i := 8) (N := some 5) (v := ?_) (a' := ?_) #[true, true, true, true, true, true, true, true, true, false] rfl rfl (any_of HT_.out (by kernel_rfl)) (fun _ _ _ h => h) (Or.inl ⟨by rfl, ?_⟩) ?_ ?_
    rotate_left
    ·intro w'
     go_simp
     with_reducible rfl
    rotate_left
    ·simp only [Act.put, List.setIfInBounds_toArray, List.set_cons_zero, List.set_cons_succ, i64_w, i32_w]
     rfl
    refine pure_ (i := 9) (N := some 6) (v := ?_) (a' := ?_) #[true, true, true, true, true, true, true, true, true, true] rfl rfl (any_of HT_.out (by kernel_rfl)) (fun _ _ _ h => h) (Or.inl ⟨by rfl, ?_⟩) ?_ ?_
    rotate_left
    ·intro w'
     go_simp
     with_reducible rfl
    rotate_left
    ·simp only [Act.put, List.setIfInBounds_toArray, List.set_cons_zero, List.set_cons_succ, i64_w, i32_w]
     rfl
    refine done_ (done_of HT_.out (by kernel_rfl)) ?_
    have hnb33 := NB178_179.out
    have hnc33 := NB179_178.out
    obtain ⟨hcz34_0, hcz34_1, hcz34_2, hcz34_3, hcz34_4, hfz34_0, hfz34_1, hfz34_2, hfz34_3, hfz34_4⟩ := cz5 (W := w32) BK178
    try go_wp2
    go_ret
    exact ⟨ez, bz⟩
 ·rw [if_neg c5] at H
  have c5b0 : decide (0 < t180) = false := decide_eq_false c5
  clear c5
  by_cases c35 : a0_4 = true
  ·subst c35
   replace H := hT H
   by_cases c36 : t180 ≥ 0
   ·rw [if_pos c36] at H
    have c36b0 : decide (0 ≤ t180) = true := decide_eq_true c36
    clear c36
    obtain rfl := Option.some.inj H
    go_enter Tryd.func42, Tryd.ntmps42
    try go_wp2_with (first | ((with_reducible refine gate_dst (N := 2) rfl ?_); refine box_event rfl (N := 2) rfl (cs := #[.string a0_0, .int .i64 a0_1, .string a0_2, .int .i64 a0_3, .bool true]) (t := 70) gz ?_; intro gb178 hg w37 hbox hb; have GW178 := gN bz hg; have GE178 := gN bz hg; have BK178 := Aside0.mk hbox; replace HB := bN bz hb; clear hb hbox hg) | ((with_reducible refine gate_dst (N := 3) rfl ?_); refine box_event rfl (N := 3) rfl (cs := #[.string a1_0, .int .i64 a1_1]) (t := 28) gz ?_; intro gb179 hg w38 hbox hb; have GW179 := gN bz hg; have GE179 := gN bz hg; have NB178_179 := lN (g := gb178) (cs := #[.string a0_0, .int .i64 a0_1, .string a0_2, .int .i64 a0_3, .bool true]) hg bk; have NB179_178 := rN (g := gb178) (cs := #[.string a0_0, .int .i64 a0_1, .string a0_2, .int .i64 a0_3, .bool true]) hg bk; replace BK178 := kN (g := gb178) (cs := #[.string a0_0, .int .i64 a0_1, .string a0_2, .int .i64 a0_3, .bool true]) hb bk; have BK179 := Aside0.mk hbox; replace HB := bN bz hb; clear hb hbox hg))
    replace BK178 := Aside0.mk (blk_drew BK178.out)
    replace BK179 := Aside0.mk (blk_drew BK179.out)
    replace HB := Aside0.mk (below_drew1 HB.out)
    refine start_ (n := 10) (S := fun w' => w'.cell? ⟨gb179, 0, none⟩ = some (.string a1_0) ∧ w'.cell? ⟨gb179, 1, none⟩ = some (.int .i64 a1_1) ∧ w'.cell? ⟨gb178, 0, none⟩ = some (.string a0_0) ∧ w'.cell? ⟨gb178, 1, none⟩ = some (.int .i64 a0_1) ∧ w'.cell? ⟨gb178, 2, none⟩ = some (.string a0_2) ∧ w'.cell? ⟨gb178, 3, none⟩ = some (.int .i64 a0_3) ∧ w'.cell? ⟨gb178, 4, none⟩ = some (.bool true)) (ds := []) #[false, false, false, false, false, false, false, false, false, false] (by kernel_rfl) rfl rfl ⟨(blk_cell BK179.out 0).trans rfl, (blk_cell BK179.out 1).trans rfl, (blk_cell BK178.out 0).trans rfl, (blk_cell BK178.out 1).trans rfl, (blk_cell BK178.out 2).trans rfl, (blk_cell BK178.out 3).trans rfl, (blk_cell BK178.out 4).trans rfl⟩ (fun hHeld => ?_); refine with_tabW short_span_in.tab1 short_span_in.bits1 (fun HT_ HW_ => ?_)
    generalize w38.drew = w39 at BK178 BK179 HB hHeld ⊢
    refine pure_ (i := 1) (N := some 8) (v := ?_) (a' := ?_) #[false, true, false, false, false, false, false, false, false, false] rfl rfl (any_of HT_.out (by kernel_rfl)) (fun _ _ _ h => h) (Or.inl ⟨by rfl, ?_⟩) ?_ ?_
    rotate_left
    ·intro w'
     go_simp
     with_reducible rfl
    rotate_left
    ·simp only [Act.put, List.setIfInBounds_toArray, List.set_cons_zero, List.set_cons_succ, i64_w, i32_w]
     rfl
    refine pure_ (i := 5) (N := some 12) (v := ?_) (a' := ?_) #[false, true, false, false, false, true, false, false, false, false] rfl rfl (any_of HT_.out (by kernel_rfl)) (fun _ _ _ h => h) (Or.inl ⟨by rfl, ?_⟩) ?_ ?_
    rotate_left
    ·intro w'
     go_simp
     with_reducible rfl
    rotate_left
    ·simp only [Act.put, List.setIfInBounds_toArray, List.set_cons_zero, List.set_cons_succ, i64_w, i32_w]
     rfl
    refine take_ (i := 0) (N := some 7) (v := ?_) (a' := ?_) #[true, true, false, false, false, true, false, false, false, false] rfl rfl (take_ofW HT_.out HW_.out (by kernel_rfl)) (fun _ _ _ h => h) (Or.inl ⟨by rfl, ?_⟩) hHeld ?_ ?_
    rotate_left
    ·rintro w' ⟨s0, s1, s2, s3, s4, s5, s6⟩
     go_simp
     with_reducible rfl
    rotate_left
    ·simp only [Act.put, List.setIfInBounds_toArray, List.set_cons_zero, List.set_cons_succ, i64_w, i32_w]
     rfl
    refine take_ (i := 2) (N := some 9) (v := ?_) (a' := ?_) #[true, true, true, false, false, true, false, false, false, false] rfl rfl (take_ofW HT_.out HW_.out (by kernel_rfl)) (fun _ _ _ h => h) (Or.inl ⟨by rfl, ?_⟩) hHeld ?_ ?_
    rotate_left
    ·rintro w' ⟨s0, s1, s2, s3, s4, s5, s6⟩
     go_simp
     with_reducible rfl
    rotate_left
    ·simp only [Act.put, List.setIfInBounds_toArray, List.set_cons_zero, List.set_cons_succ, i64_w, i32_w]
     rfl
    refine take_ (i := 4) (N := some 11) (v := ?_) (a' := ?_) #[true, true, true, false, true, true, false, false, false, false] rfl rfl (take_ofW HT_.out HW_.out (by kernel_rfl)) (fun _ _ _ h => h) (Or.inl ⟨by rfl, ?_⟩) hHeld ?_ ?_
    rotate_left
    ·rintro w' ⟨s0, s1, s2, s3, s4, s5, s6⟩
     go_simp
     with_reducible rfl
    rotate_left
    ·simp only [Act.put, List.setIfInBounds_toArray, List.set_cons_zero, List.set_cons_succ, i64_w, i32_w]
     rfl
    refine take_ (i := 6) (N := some 13) (v := ?_) (a' := ?_) #[true, true, true, false, true, true, true, false, false, false] rfl rfl (take_ofW HT_.out HW_.out (by kernel_rfl)) (fun _ _ _ h => h) (Or.inl ⟨by rfl, ?_⟩) hHeld ?_ ?_
    rotate_left
    ·rintro w' ⟨s0, s1, s2, s3, s4, s5, s6⟩
     go_simp
     with_reducible rfl
    rotate_left
    ·simp only [Act.put, List.setIfInBounds_toArray, List.set_cons_zero, List.set_cons_succ, i64_w, i32_w]
     rfl
    refine one_ (i := 3) (N := some 10) #[true, true, true, true, true, true, true, false, false, false] rfl rfl (one_of HT_.out (by kernel_rfl)) (by decide) (fun K hK => ?_)
    refine goes_ Tryd.func34 (by kernel_rfl) rfl #[.agg #[.string a1_0, .int .i64 a1_1], .agg #[.string a0_0, .int .i64 a0_1]] (by rfl) rfl rfl lz ?_
    with_reducible refine (short_cmp.calls k a1_0 a1_1 a0_0 a0_1 t180 _ A3.out).mono ?_
    rintro e w40 ⟨rfl, hb⟩
    refine ⟨_, rfl, ?_⟩
    replace BK178 := Aside0.mk (blk_below (g := gb178) (o := .cells #[.string a0_0, .int .i64 a0_1, .string a0_2, .int .i64 a0_3, .bool true] 70 (0, 0)) bk hb)
    replace BK179 := Aside0.mk (blk_below (g := gb179) (o := .cells #[.string a1_0, .int .i64 a1_1] 28 (0, 0)) bk hb)
    replace HB := Aside0.mk (below_step bz hb)
    (try clear hb)
    (try clear hb2)
    (try clear hk)
    (try clear hi)
    refine hK.out _ _ ⟨(blk_cell BK179.out 0).trans rfl, (blk_cell BK179.out 1).trans rfl, (blk_cell BK178.out 0).trans rfl, (blk_cell BK178.out 1).trans rfl, (blk_cell BK178.out 2).trans rfl, (blk_cell BK178.out 3).trans rfl, (blk_cell BK178.out 4).trans rfl⟩ (fun hHeld => ?_)
    clear hK K
    refine norm_ (a' := ?_) ?_ ?_
    rotate_left
    ·show Act.put _ (some 10) _ = _
     simp only [Act.put, List.setIfInBounds_toArray, List.set_cons_zero, List.set_cons_succ, i64_w, i32_w]
     rfl
    refine one_ (i := 7) (N := some 14) #[true, true, true, true, true, true, true, true, false, false] rfl rfl (one_of HT_.out (by kernel_rfl)) (by decide) (fun K hK => ?_)
    refine goes_ Tryd.func34 (by kernel_rfl) rfl #[.agg #[.string a1_0, .int .i64 a1_1], .agg #[.string a0_2, .int .i64 a0_3]] (by rfl) rfl rfl lz ?_
    with_reducible refine (short_cmp.calls k a1_0 a1_1 a0_2 a0_3 t181 _ A4.out).mono ?_
    rintro e w41 ⟨rfl, hb⟩
    refine ⟨_, rfl, ?_⟩
    replace BK178 := Aside0.mk (blk_below (g := gb178) (o := .cells #[.string a0_0, .int .i64 a0_1, .string a0_2, .int .i64 a0_3, .bool true] 70 (0, 0)) bk hb)
    replace BK179 := Aside0.mk (blk_below (g := gb179) (o := .cells #[.string a1_0, .int .i64 a1_1] 28 (0, 0)) bk hb)
    replace HB := Aside0.mk (below_step bz hb)
    (try clear hb)
    (try clear hb2)
    (try clear hk)
    (try clear hi)
    refine hK.out _ _ ⟨(blk_cell BK179.out 0).trans rfl, (blk_cell BK179.out 1).trans rfl, (blk_cell BK178.out 0).trans rfl, (blk_cell BK178.out 1).trans rfl, (blk_cell BK178.out 2).trans rfl, (blk_cell BK178.out 3).trans rfl, (blk_cell BK178.out 4).trans rfl⟩ (fun hHeld => ?_)
    clear hK K
    refine norm_ (a' := ?_) ?_ ?_
    rotate_left
    ·show Act.put _ (some 14) _ = _
     simp only [Act.put, List.setIfInBounds_toArray, List.set_cons_zero, List.set_cons_succ, i64_w, i32_w]
     rfl
    refine pure_ (i := 8) (N := some 5) (v := ?_) (a' := ?_) #[true, true, true, true, true, true, true, true, true, false] rfl rfl (any_of HT_.out (by kernel_rfl)) (fun _ _ _ h => h) (Or.inl ⟨by rfl, ?_⟩) ?_ ?_
    rotate_left
    ·intro w'
     go_simp
     with_reducible rfl
    rotate_left
    ·simp only [Act.put, List.setIfInBounds_toArray, List.set_cons_zero, List.set_cons_succ, i64_w, i32_w]
     rfl
    refine pure_ (i := 9) (N := some 6) (v := ?_) (a' := ?_) #[true, true, true, true, true, true, true, true, true, true] rfl rfl (any_of HT_.out (by kernel_rfl)) (fun _ _ _ h => h) (Or.inl ⟨by rfl, ?_⟩) ?_ ?_
    rotate_left
    ·intro w'
     go_simp
     with_reducible rfl
    rotate_left
    ·simp only [Act.put, List.setIfInBounds_toArray, List.set_cons_zero, List.set_cons_succ, i64_w, i32_w]
     rfl
    refine done_ (done_of HT_.out (by kernel_rfl)) ?_
    have hnb42 := NB178_179.out
    have hnc42 := NB179_178.out
    obtain ⟨hcz43_0, hcz43_1, hcz43_2, hcz43_3, hcz43_4, hfz43_0, hfz43_1, hfz43_2, hfz43_3, hfz43_4⟩ := cz5 (W := w41) BK178
    try go_wp2
    go_ret
    exact ⟨ez, bz⟩
   ·rw [if_neg c36] at H
    have c36b0 : decide (0 ≤ t180) = false := decide_eq_false c36
    clear c36
    obtain rfl := Option.some.inj H
    go_enter Tryd.func42, Tryd.ntmps42
    try go_wp2_with (first | ((with_reducible refine gate_dst (N := 2) rfl ?_); refine box_event rfl (N := 2) rfl (cs := #[.string a0_0, .int .i64 a0_1, .string a0_2, .int .i64 a0_3, .bool true]) (t := 70) gz ?_; intro gb178 hg w44 hbox hb; have GW178 := gN bz hg; have GE178 := gN bz hg; have BK178 := Aside0.mk hbox; replace HB := bN bz hb; clear hb hbox hg) | ((with_reducible refine gate_dst (N := 3) rfl ?_); refine box_event rfl (N := 3) rfl (cs := #[.string a1_0, .int .i64 a1_1]) (t := 28) gz ?_; intro gb179 hg w45 hbox hb; have GW179 := gN bz hg; have GE179 := gN bz hg; have NB178_179 := lN (g := gb178) (cs := #[.string a0_0, .int .i64 a0_1, .string a0_2, .int .i64 a0_3, .bool true]) hg bk; have NB179_178 := rN (g := gb178) (cs := #[.string a0_0, .int .i64 a0_1, .string a0_2, .int .i64 a0_3, .bool true]) hg bk; replace BK178 := kN (g := gb178) (cs := #[.string a0_0, .int .i64 a0_1, .string a0_2, .int .i64 a0_3, .bool true]) hb bk; have BK179 := Aside0.mk hbox; replace HB := bN bz hb; clear hb hbox hg))
    replace BK178 := Aside0.mk (blk_drew BK178.out)
    replace BK179 := Aside0.mk (blk_drew BK179.out)
    replace HB := Aside0.mk (below_drew1 HB.out)
    refine start_ (n := 10) (S := fun w' => w'.cell? ⟨gb179, 0, none⟩ = some (.string a1_0) ∧ w'.cell? ⟨gb179, 1, none⟩ = some (.int .i64 a1_1) ∧ w'.cell? ⟨gb178, 0, none⟩ = some (.string a0_0) ∧ w'.cell? ⟨gb178, 1, none⟩ = some (.int .i64 a0_1) ∧ w'.cell? ⟨gb178, 2, none⟩ = some (.string a0_2) ∧ w'.cell? ⟨gb178, 3, none⟩ = some (.int .i64 a0_3) ∧ w'.cell? ⟨gb178, 4, none⟩ = some (.bool true)) (ds := []) #[false, false, false, false, false, false, false, false, false, false] (by kernel_rfl) rfl rfl ⟨(blk_cell BK179.out 0).trans rfl, (blk_cell BK179.out 1).trans rfl, (blk_cell BK178.out 0).trans rfl, (blk_cell BK178.out 1).trans rfl, (blk_cell BK178.out 2).trans rfl, (blk_cell BK178.out 3).trans rfl, (blk_cell BK178.out 4).trans rfl⟩ (fun hHeld => ?_); refine with_tabW short_span_in.tab1 short_span_in.bits1 (fun HT_ HW_ => ?_)
    generalize w45.drew = w46 at BK178 BK179 HB hHeld ⊢
    refine pure_ (i := 1) (N := some 8) (v := ?_) (a' := ?_) #[false, true, false, false, false, false, false, false, false, false] rfl rfl (any_of HT_.out (by kernel_rfl)) (fun _ _ _ h => h) (Or.inl ⟨by rfl, ?_⟩) ?_ ?_
    rotate_left
    ·intro w'
     go_simp
     with_reducible rfl
    rotate_left
    ·simp only [Act.put, List.setIfInBounds_toArray, List.set_cons_zero, List.set_cons_succ, i64_w, i32_w]
     rfl
    refine pure_ (i := 5) (N := some 12) (v := ?_) (a' := ?_) #[false, true, false, false, false, true, false, false, false, false] rfl rfl (any_of HT_.out (by kernel_rfl)) (fun _ _ _ h => h) (Or.inl ⟨by rfl, ?_⟩) ?_ ?_
    rotate_left
    ·intro w'
     go_simp
     with_reducible rfl
    rotate_left
    ·simp only [Act.put, List.setIfInBounds_toArray, List.set_cons_zero, List.set_cons_succ, i64_w, i32_w]
     rfl
    refine take_ (i := 0) (N := some 7) (v := ?_) (a' := ?_) #[true, true, false, false, false, true, false, false, false, false] rfl rfl (take_ofW HT_.out HW_.out (by kernel_rfl)) (fun _ _ _ h => h) (Or.inl ⟨by rfl, ?_⟩) hHeld ?_ ?_
    rotate_left
    ·rintro w' ⟨s0, s1, s2, s3, s4, s5, s6⟩
     go_simp
     with_reducible rfl
    rotate_left
    ·simp only [Act.put, List.setIfInBounds_toArray, List.set_cons_zero, List.set_cons_succ, i64_w, i32_w]
     rfl
    refine take_ (i := 2) (N := some 9) (v := ?_) (a' := ?_) #[true, true, true, false, false, true, false, false, false, false] rfl rfl (take_ofW HT_.out HW_.out (by kernel_rfl)) (fun _ _ _ h => h) (Or.inl ⟨by rfl, ?_⟩) hHeld ?_ ?_
    rotate_left
    ·rintro w' ⟨s0, s1, s2, s3, s4, s5, s6⟩
     go_simp
     with_reducible rfl
    rotate_left
    ·simp only [Act.put, List.setIfInBounds_toArray, List.set_cons_zero, List.set_cons_succ, i64_w, i32_w]
     rfl
    refine take_ (i := 4) (N := some 11) (v := ?_) (a' := ?_) #[true, true, true, false, true, true, false, false, false, false] rfl rfl (take_ofW HT_.out HW_.out (by kernel_rfl)) (fun _ _ _ h => h) (Or.inl ⟨by rfl, ?_⟩) hHeld ?_ ?_
    rotate_left
    ·rintro w' ⟨s0, s1, s2, s3, s4, s5, s6⟩
     go_simp
     with_reducible rfl
    rotate_left
    ·simp only [Act.put, List.setIfInBounds_toArray, List.set_cons_zero, List.set_cons_succ, i64_w, i32_w]
     rfl
    refine take_ (i := 6) (N := some 13) (v := ?_) (a' := ?_) #[true, true, true, false, true, true, true, false, false, false] rfl rfl (take_ofW HT_.out HW_.out (by kernel_rfl)) (fun _ _ _ h => h) (Or.inl ⟨by rfl, ?_⟩) hHeld ?_ ?_
    rotate_left
    ·rintro w' ⟨s0, s1, s2, s3, s4, s5, s6⟩
     go_simp
     with_reducible rfl
    rotate_left
    ·simp only [Act.put, List.setIfInBounds_toArray, List.set_cons_zero, List.set_cons_succ, i64_w, i32_w]
     rfl
    refine one_ (i := 3) (N := some 10) #[true, true, true, true, true, true, true, false, false, false] rfl rfl (one_of HT_.out (by kernel_rfl)) (by decide) (fun K hK => ?_)
    refine goes_ Tryd.func34 (by kernel_rfl) rfl #[.agg #[.string a1_0, .int .i64 a1_1], .agg #[.string a0_0, .int .i64 a0_1]] (by rfl) rfl rfl lz ?_
    with_reducible refine (short_cmp.calls k a1_0 a1_1 a0_0 a0_1 t180 _ A3.out).mono ?_
    rintro e w47 ⟨rfl, hb⟩
    refine ⟨_, rfl, ?_⟩
    replace BK178 := Aside0.mk (blk_below (g := gb178) (o := .cells #[.string a0_0, .int .i64 a0_1, .string a0_2, .int .i64 a0_3, .bool true] 70 (0, 0)) bk hb)
    replace BK179 := Aside0.mk (blk_below (g := gb179) (o := .cells #[.string a1_0, .int .i64 a1_1] 28 (0, 0)) bk hb)
    replace HB := Aside0.mk (below_step bz hb)
    (try clear hb)
    (try clear hb2)
    (try clear hk)
    (try clear hi)
    refine hK.out _ _ ⟨(blk_cell BK179.out 0).trans rfl, (blk_cell BK179.out 1).trans rfl, (blk_cell BK178.out 0).trans rfl, (blk_cell BK178.out 1).trans rfl, (blk_cell BK178.out 2).trans rfl, (blk_cell BK178.out 3).trans rfl, (blk_cell BK178.out 4).trans rfl⟩ (fun hHeld => ?_)
    clear hK K
    refine norm_ (a' := ?_) ?_ ?_
    rotate_left
    ·show Act.put _ (some 10) _ = _
     simp only [Act.put, List.setIfInBounds_toArray, List.set_cons_zero, List.set_cons_succ, i64_w, i32_w]
     rfl
    refine one_ (i := 7) (N := some 14) #[true, true, true, true, true, true, true, true, false, false] rfl rfl (one_of HT_.out (by kernel_rfl)) (by decide) (fun K hK => ?_)
    refine goes_ Tryd.func34 (by kernel_rfl) rfl #[.agg #[.string a1_0, .int .i64 a1_1], .agg #[.string a0_2, .int .i64 a0_3]] (by rfl) rfl rfl lz ?_
    with_reducible refine (short_cmp.calls k a1_0 a1_1 a0_2 a0_3 t181 _ A4.out).mono ?_
    rintro e w48 ⟨rfl, hb⟩
    refine ⟨_, rfl, ?_⟩
    replace BK178 := Aside0.mk (blk_below (g := gb178) (o := .cells #[.string a0_0, .int .i64 a0_1, .string a0_2, .int .i64 a0_3, .bool true] 70 (0, 0)) bk hb)
    replace BK179 := Aside0.mk (blk_below (g := gb179) (o := .cells #[.string a1_0, .int .i64 a1_1] 28 (0, 0)) bk hb)
    replace HB := Aside0.mk (below_step bz hb)
    (try clear hb)
    (try clear hb2)
    (try clear hk)
    (try clear hi)
    refine hK.out _ _ ⟨(blk_cell BK179.out 0).trans rfl, (blk_cell BK179.out 1).trans rfl, (blk_cell BK178.out 0).trans rfl, (blk_cell BK178.out 1).trans rfl, (blk_cell BK178.out 2).trans rfl, (blk_cell BK178.out 3).trans rfl, (blk_cell BK178.out 4).trans rfl⟩ (fun hHeld => ?_)
    clear hK K
    refine norm_ (a' := ?_) ?_ ?_
    rotate_left
    ·show Act.put _ (some 14) _ = _
     simp only [Act.put, List.setIfInBounds_toArray, List.set_cons_zero, List.set_cons_succ, i64_w, i32_w]
     rfl
    refine pure_ (i := 8) (N := some 5) (v := ?_) (a' := ?_) #[true, true, true, true, true, true, true, true, true, false] rfl rfl (any_of HT_.out (by kernel_rfl)) (fun _ _ _ h => h) (Or.inl ⟨by rfl, ?_⟩) ?_ ?_
    rotate_left
    ·intro w'
     go_simp
     with_reducible rfl
    rotate_left
    ·simp only [Act.put, List.setIfInBounds_toArray, List.set_cons_zero, List.set_cons_succ, i64_w, i32_w]
     rfl
    refine pure_ (i := 9) (N := some 6) (v := ?_) (a' := ?_) #[true, true, true, true, true, true, true, true, true, true] rfl rfl (any_of HT_.out (by kernel_rfl)) (fun _ _ _ h => h) (Or.inl ⟨by rfl, ?_⟩) ?_ ?_
    rotate_left
    ·intro w'
     go_simp
     with_reducible rfl
    rotate_left
    ·simp only [Act.put, List.setIfInBounds_toArray, List.set_cons_zero, List.set_cons_succ, i64_w, i32_w]
     rfl
    refine done_ (done_of HT_.out (by kernel_rfl)) ?_
    have hnb49 := NB178_179.out
    have hnc49 := NB179_178.out
    obtain ⟨hcz50_0, hcz50_1, hcz50_2, hcz50_3, hcz50_4, hfz50_0, hfz50_1, hfz50_2, hfz50_3, hfz50_4⟩ := cz5 (W := w48) BK178
    try go_wp2
    go_ret
    exact ⟨ez, bz⟩
  ·replace c35 := Bool.eq_false_iff.mpr c35
   subst c35
   replace H := hF H
   obtain rfl := Option.some.inj H
   go_enter Tryd.func42, Tryd.ntmps42
   try go_wp2_with (first | ((with_reducible refine gate_dst (N := 2) rfl ?_); refine box_event rfl (N := 2) rfl (cs := #[.string a0_0, .int .i64 a0_1, .string a0_2, .int .i64 a0_3, .bool false]) (t := 70) gz ?_; intro gb178 hg w51 hbox hb; have GW178 := gN bz hg; have GE178 := gN bz hg; have BK178 := Aside0.mk hbox; replace HB := bN bz hb; clear hb hbox hg) | ((with_reducible refine gate_dst (N := 3) rfl ?_); refine box_event rfl (N := 3) rfl (cs := #[.string a1_0, .int .i64 a1_1]) (t := 28) gz ?_; intro gb179 hg w52 hbox hb; have GW179 := gN bz hg; have GE179 := gN bz hg; have NB178_179 := lN (g := gb178) (cs := #[.string a0_0, .int .i64 a0_1, .string a0_2, .int .i64 a0_3, .bool false]) hg bk; have NB179_178 := rN (g := gb178) (cs := #[.string a0_0, .int .i64 a0_1, .string a0_2, .int .i64 a0_3, .bool false]) hg bk; replace BK178 := kN (g := gb178) (cs := #[.string a0_0, .int .i64 a0_1, .string a0_2, .int .i64 a0_3, .bool false]) hb bk; have BK179 := Aside0.mk hbox; replace HB := bN bz hb; clear hb hbox hg))
   replace BK178 := Aside0.mk (blk_drew BK178.out)
   replace BK179 := Aside0.mk (blk_drew BK179.out)
   replace HB := Aside0.mk (below_drew1 HB.out)
   refine start_ (n := 10) (S := fun w' => w'.cell? ⟨gb179, 0, none⟩ = some (.string a1_0) ∧ w'.cell? ⟨gb179, 1, none⟩ = some (.int .i64 a1_1) ∧ w'.cell? ⟨gb178, 0, none⟩ = some (.string a0_0) ∧ w'.cell? ⟨gb178, 1, none⟩ = some (.int .i64 a0_1) ∧ w'.cell? ⟨gb178, 2, none⟩ = some (.string a0_2) ∧ w'.cell? ⟨gb178, 3, none⟩ = some (.int .i64 a0_3) ∧ w'.cell? ⟨gb178, 4, none⟩ = some (.bool false)) (ds := []) #[false, false, false, false, false, false, false, false, false, false] (by kernel_rfl) rfl rfl ⟨(blk_cell BK179.out 0).trans rfl, (blk_cell BK179.out 1).trans rfl, (blk_cell BK178.out 0).trans rfl, (blk_cell BK178.out 1).trans rfl, (blk_cell BK178.out 2).trans rfl, (blk_cell BK178.out 3).trans rfl, (blk_cell BK178.out 4).trans rfl⟩ (fun hHeld => ?_); refine with_tabW short_span_in.tab1 short_span_in.bits1 (fun HT_ HW_ => ?_)
   generalize w52.drew = w53 at BK178 BK179 HB hHeld ⊢
   refine pure_ (i := 1) (N := some 8) (v := ?_) (a' := ?_) #[false, true, false, false, false, false, false, false, false, false] rfl rfl (any_of HT_.out (by kernel_rfl)) (fun _ _ _ h => h) (Or.inl ⟨by rfl, ?_⟩) ?_ ?_
   rotate_left
   ·intro w'
    go_simp
    with_reducible rfl
   rotate_left
   ·simp only [Act.put, List.setIfInBounds_toArray, List.set_cons_zero, List.set_cons_succ, i64_w, i32_w]
    rfl
   refine pure_ (i := 5) (N := some 12) (v := ?_) (a' := ?_) #[false, true, false, false, false, true, false, false, false, false] rfl rfl (any_of HT_.out (by kernel_rfl)) (fun _ _ _ h => h) (Or.inl ⟨by rfl, ?_⟩) ?_ ?_
   rotate_left
   ·intro w'
    go_simp
    with_reducible rfl
   rotate_left
   ·simp only [Act.put, List.setIfInBounds_toArray, List.set_cons_zero, List.set_cons_succ, i64_w, i32_w]
    rfl
   refine take_ (i := 0) (N := some 7) (v := ?_) (a' := ?_) #[true, true, false, false, false, true, false, false, false, false] rfl rfl (take_ofW HT_.out HW_.out (by kernel_rfl)) (fun _ _ _ h => h) (Or.inl ⟨by rfl, ?_⟩) hHeld ?_ ?_
   rotate_left
   ·rintro w' ⟨s0, s1, s2, s3, s4, s5, s6⟩
    go_simp
    with_reducible rfl
   rotate_left
   ·simp only [Act.put, List.setIfInBounds_toArray, List.set_cons_zero, List.set_cons_succ, i64_w, i32_w]
    rfl
   refine take_ (i := 2) (N := some 9) (v := ?_) (a' := ?_) #[true, true, true, false, false, true, false, false, false, false] rfl rfl (take_ofW HT_.out HW_.out (by kernel_rfl)) (fun _ _ _ h => h) (Or.inl ⟨by rfl, ?_⟩) hHeld ?_ ?_
   rotate_left
   ·rintro w' ⟨s0, s1, s2, s3, s4, s5, s6⟩
    go_simp
    with_reducible rfl
   rotate_left
   ·simp only [Act.put, List.setIfInBounds_toArray, List.set_cons_zero, List.set_cons_succ, i64_w, i32_w]
    rfl
   refine take_ (i := 4) (N := some 11) (v := ?_) (a' := ?_) #[true, true, true, false, true, true, false, false, false, false] rfl rfl (take_ofW HT_.out HW_.out (by kernel_rfl)) (fun _ _ _ h => h) (Or.inl ⟨by rfl, ?_⟩) hHeld ?_ ?_
   rotate_left
   ·rintro w' ⟨s0, s1, s2, s3, s4, s5, s6⟩
    go_simp
    with_reducible rfl
   rotate_left
   ·simp only [Act.put, List.setIfInBounds_toArray, List.set_cons_zero, List.set_cons_succ, i64_w, i32_w]
    rfl
   refine take_ (i := 6) (N := some 13) (v := ?_) (a' := ?_) #[true, true, true, false, true, true, true, false, false, false] rfl rfl (take_ofW HT_.out HW_.out (by kernel_rfl)) (fun _ _ _ h => h) (Or.inl ⟨by rfl, ?_⟩) hHeld ?_ ?_
   rotate_left
   ·rintro w' ⟨s0, s1, s2, s3, s4, s5, s6⟩
    go_simp
    with_reducible rfl
   rotate_left
   ·simp only [Act.put, List.setIfInBounds_toArray, List.set_cons_zero, List.set_cons_succ, i64_w, i32_w]
    rfl
   refine one_ (i := 3) (N := some 10) #[true, true, true, true, true, true, true, false, false, false] rfl rfl (one_of HT_.out (by kernel_rfl)) (by decide) (fun K hK => ?_)
   refine goes_ Tryd.func34 (by kernel_rfl) rfl #[.agg #[.string a1_0, .int .i64 a1_1], .agg #[.string a0_0, .int .i64 a0_1]] (by rfl) rfl rfl lz ?_
   with_reducible refine (short_cmp.calls k a1_0 a1_1 a0_0 a0_1 t180 _ A3.out).mono ?_
   rintro e w54 ⟨rfl, hb⟩
   refine ⟨_, rfl, ?_⟩
   replace BK178 := Aside0.mk (blk_below (g := gb178) (o := .cells #[.string a0_0, .int .i64 a0_1, .string a0_2, .int .i64 a0_3, .bool false] 70 (0, 0)) bk hb)
   replace BK179 := Aside0.mk (blk_below (g := gb179) (o := .cells #[.string a1_0, .int .i64 a1_1] 28 (0, 0)) bk hb)
   replace HB := Aside0.mk (below_step bz hb)
   (try clear hb)
   (try clear hb2)
   (try clear hk)
   (try clear hi)
   refine hK.out _ _ ⟨(blk_cell BK179.out 0).trans rfl, (blk_cell BK179.out 1).trans rfl, (blk_cell BK178.out 0).trans rfl, (blk_cell BK178.out 1).trans rfl, (blk_cell BK178.out 2).trans rfl, (blk_cell BK178.out 3).trans rfl, (blk_cell BK178.out 4).trans rfl⟩ (fun hHeld => ?_)
   clear hK K
   refine norm_ (a' := ?_) ?_ ?_
   rotate_left
   ·show Act.put _ (some 10) _ = _
    simp only [Act.put, List.setIfInBounds_toArray, List.set_cons_zero, List.set_cons_succ, i64_w, i32_w]
    rfl
   refine one_ (i := 7) (N := some 14) #[true, true, true, true, true, true, true, true, false, false] rfl rfl (one_of HT_.out (by kernel_rfl)) (by decide) (fun K hK => ?_)
   refine goes_ Tryd.func34 (by kernel_rfl) rfl #[.agg #[.string a1_0, .int .i64 a1_1], .agg #[.string a0_2, .int .i64 a0_3]] (by rfl) rfl rfl lz ?_
   with_reducible refine (short_cmp.calls k a1_0 a1_1 a0_2 a0_3 t181 _ A4.out).mono ?_
   rintro e w55 ⟨rfl, hb⟩
   refine ⟨_, rfl, ?_⟩
   replace BK178 := Aside0.mk (blk_below (g := gb178) (o := .cells #[.string a0_0, .int .i64 a0_1, .string a0_2, .int .i64 a0_3, .bool false] 70 (0, 0)) bk hb)
   replace BK179 := Aside0.mk (blk_below (g := gb179) (o := .cells #[.string a1_0, .int .i64 a1_1] 28 (0, 0)) bk hb)
   replace HB := Aside0.mk (below_step bz hb)
   (try clear hb)
   (try clear hb2)
   (try clear hk)
   (try clear hi)
   refine hK.out _ _ ⟨(blk_cell BK179.out 0).trans rfl, (blk_cell BK179.out 1).trans rfl, (blk_cell BK178.out 0).trans rfl, (blk_cell BK178.out 1).trans rfl, (blk_cell BK178.out 2).trans rfl, (blk_cell BK178.out 3).trans rfl, (blk_cell BK178.out 4).trans rfl⟩ (fun hHeld => ?_)
   clear hK K
   refine norm_ (a' := ?_) ?_ ?_
   rotate_left
   ·show Act.put _ (some 14) _ = _
    simp only [Act.put, List.setIfInBounds_toArray, List.set_cons_zero, List.set_cons_succ, i64_w, i32_w]
    rfl
   refine pure_ (i := 8) (N := some 5) (v := ?_) (a' := ?_) #[true, true, true, true, true, true, true, true, true, false] rfl rfl (any_of HT_.out (by kernel_rfl)) (fun _ _ _ h => h) (Or.inl ⟨by rfl, ?_⟩) ?_ ?_
   rotate_left
   ·intro w'
    go_simp
    with_reducible rfl
   rotate_left
   ·simp only [Act.put, List.setIfInBounds_toArray, List.set_cons_zero, List.set_cons_succ, i64_w, i32_w]
    rfl
   refine pure_ (i := 9) (N := some 6) (v := ?_) (a' := ?_) #[true, true, true, true, true, true, true, true, true, true] rfl rfl (any_of HT_.out (by kernel_rfl)) (fun _ _ _ h => h) (Or.inl ⟨by rfl, ?_⟩) ?_ ?_
   rotate_left
   ·intro w'
    go_simp
    with_reducible rfl
   rotate_left
   ·simp only [Act.put, List.setIfInBounds_toArray, List.set_cons_zero, List.set_cons_succ, i64_w, i32_w]
    rfl
   refine done_ (done_of HT_.out (by kernel_rfl)) ?_
   have hnb56 := NB178_179.out
   have hnc56 := NB179_178.out
   obtain ⟨hcz57_0, hcz57_1, hcz57_2, hcz57_3, hcz57_4, hfz57_0, hfz57_1, hfz57_2, hfz57_3, hfz57_4⟩ := cz5 (W := w55) BK178
   try go_wp2
   go_ret
   exact ⟨ez, bz⟩
end Go.Proofs.YtmeapdchnnpceaaDoor.Fn
end
