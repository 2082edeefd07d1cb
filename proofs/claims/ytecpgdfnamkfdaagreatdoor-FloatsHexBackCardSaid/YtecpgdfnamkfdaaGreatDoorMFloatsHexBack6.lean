/- The law FloatsHexBack: the walks through its functions and its plain law (part 6). Own texts and the kit's printed words for this seat, without what the law does not use: put together by merge.py (of this work). -/
import Derived.Test.YtecpgdfnamkfdaaGreatDoorMFloatsHexBack5
import Derived.Handy
section
namespace Go.Proofs.YtecpgdfnamkfdaaGreatDoor.Fn
open Go.RowKit Go.Proofs.YtecpgdfnamkfdaaGreatDoorW.PrintWords Go.Proofs.YtecpgdfnamkfdaaGreatDoorW.PrintLast Go.Proofs.YtecpgdfnamkfdaaGreatDoorW.PrintMore
attribute [local go_sem] fnW_0 fnW_1 fnW_2 fnW_3 fnW_4 fnW_5 fnW_guard fnW_eql max2_int min2_int max_two min_two
set_option linter.unusedVariables false
set_option linter.unusedSimpArgs false
def floats_float_scaled.j0 : Nat → Int → Int → Int → Int → Int → Int → Bool → Int → Option (ByteArray)
 | 0, _, _, _, _, _, _, _, _ => none
 | k + 1, x3, x248000, x248001, x248002, x248003, x248004, x248005, x248006 => (floats_float_value.f k x248000 x248001 x248002 x248003 x248004 x248005 x248006).bind fun bt248 => ((bigdec_Round.f k bt248.1 bt248.2 (wrap64 (x3 + 1))).bind fun bt250 => ((floats_filled.f bt250.1 (wrap64 (x3 + 1))).bind fun t254 => ((floats_first.f bt250.1 bt250.2.1).bind fun t255 => ((floats_float_scientific.f k x248000 x248001 x248002 x248003 x248004 x248005 x248006 t254 t255).bind fun t256 => (some t256)))))
def floats_float_scaled.f (k : Nat) (a0_0 : Int) (a0_1 : Int) (a0_2 : Int) (a0_3 : Int) (a0_4 : Int) (a0_5 : Bool) (a0_6 : Int) : Option (ByteArray) := if a0_4 < 0 then (floats_float_scaled.j0 k 6 a0_0 a0_1 a0_2 a0_3 a0_4 a0_5 a0_6) else (floats_float_scaled.j0 k a0_4 a0_0 a0_1 a0_2 a0_3 a0_4 a0_5 a0_6)
def floats_float_scaled.T5 : Bool × List (List Nat × List Nat) := (true, [([], []), ([], []), ([1], [1]), ([], []), ([3], [3]), ([2, 4], [2, 4]), ([], []), ([6, 5], [6]), ([0, 5, 7, 7], [0, 5, 7]), ([8, 8, 0, 1, 2, 3, 4, 5, 6, 7, 8], [8])])
def floats_float_scaled.B5 : List Nat := [0, 0, 2, 0, 8, 30, 0, 126, 255, 511]
theorem floats_float_scaled.tab5 : rtab .any (opsOf Tryz.f66 5) = floats_float_scaled.T5 := by kernel_rfl
theorem floats_float_scaled.bits5 : waitsOk floats_float_scaled.T5.2 floats_float_scaled.B5 = true := by kernel_rfl
set_option maxHeartbeats 8000000 in
set_option maxRecDepth 100000 in
theorem floats_float_scaled.calls (k : Nat) (a0_0 : Int) (a0_1 : Int) (a0_2 : Int) (a0_3 : Int) (a0_4 : Int) (a0_5 : Bool) (a0_6 : Int) (r : ByteArray) (w : World) (h : floats_float_scaled.f k a0_0 a0_1 a0_2 a0_3 a0_4 a0_5 a0_6 = some r) :
  Calls Tryz.prog 66 #[.agg #[.int .u64 a0_0, .int .i64 a0_1, .int .u64 a0_2, .int .i64 a0_3, .int .i64 a0_4, .bool a0_5, .int .i32 a0_6]] w fun e w' => e = .returned (.string r) ∧ Below w.heap.size w w' := by
 have hu74 := Tryz.underlying74
 have hu42 := Tryz.underlying42
 have HB := Aside0.mk (Below.refl w.heap.size w)
 have H : (if a0_4 < 0 then (floats_float_scaled.j0 k 6 a0_0 a0_1 a0_2 a0_3 a0_4 a0_5 a0_6) else (floats_float_scaled.j0 k a0_4 a0_0 a0_1 a0_2 a0_3 a0_4 a0_5 a0_6)) = some r := h
 clear h
 have HC2 := Aside0.mk H
 clear H
 go_enter Tryz.func66, Tryz.ntmps66
 go_upto_if 9 with (first | ((with_reducible refine gate_dst (N := 1) rfl ?_); refine box_event rfl (N := 1) rfl (cs := #[.int .u64 a0_0, .int .i64 a0_1, .int .u64 a0_2, .int .i64 a0_3, .int .i64 a0_4, .bool a0_5, .int .i32 a0_6]) (t := 74) gz ?_; intro gb247 hg w3 hbox hb; have GE247 := gN bz hg; have BK247 := Aside0.mk hbox; replace HB := bN bz hb; clear hb hbox hg; obtain ⟨hcz4_0, hcz4_1, hcz4_2, hcz4_3, hcz4_4, hcz4_5, hcz4_6, hfz4_0, hfz4_1, hfz4_2, hfz4_3, hfz4_4, hfz4_5, hfz4_6⟩ := cz7 (W := w3) BK247))
 (try simp only [Act.put, List.setIfInBounds_toArray, List.set_cons_zero, List.set_cons_succ])
 go_cut [3] (fun v3 wc => ∃ (kq : Nat) (x3_1 : Int), v3 = .int .i64 x3_1 ∧ Aside0 (floats_float_scaled.j0 kq x3_1 a0_0 a0_1 a0_2 a0_3 a0_4 a0_5 a0_6 = some r) ∧ Aside0 (kq ≤ k) ∧ Aside0 (wc.heap[gb247]? = some (.cells #[.int .u64 a0_0, .int .i64 a0_1, .int .u64 a0_2, .int .i64 a0_3, .int .i64 a0_4, .bool a0_5, .int .i32 a0_6] 74 (0, 0))) ∧ Aside0 (Below w.heap.size w wc))
 case first =>
  have H := HC2.out
  clear HC2
  by_cases c5 : a0_4 < 0
  ·replace H := hE H c5
   have c5b0 := decide_eq_true c5
   clear c5
   try rw [c5b0]
   have H' := Aside0.mk H
   clear H
   go_wp2
   go_meet
   case rel => exact ⟨_, (6), rz, H', ⟨by first | omega | exact Nat.le_refl _⟩, ⟨bk⟩, ⟨bz⟩⟩
  ·replace H := hN H c5
   have c5b0 := decide_eq_false c5
   clear c5
   try rw [c5b0]
   have H' := Aside0.mk H
   clear H
   go_wp2
   go_meet
   case rel => exact ⟨_, (a0_4), rz, H', ⟨by first | omega | exact Nat.le_refl _⟩, ⟨bk⟩, ⟨bz⟩⟩
 case rest =>
  clear HC2
  try clear c5
  try clear c5b0
  try clear hcz4_0 hcz4_1 hcz4_2 hcz4_3 hcz4_4 hcz4_5 hcz4_6 hfz4_0 hfz4_1 hfz4_2 hfz4_3 hfz4_4 hfz4_5 hfz4_6
  obtain ⟨kq, x3_1, rfl, HA, HJ1, BK247, HB⟩ := hcut
  cases kq with
  | zero => exact absurd HA.out (by simp [floats_float_scaled.j0])
  | succ kj1 =>
   have H := HA.out
   clear HA
   simp only [floats_float_scaled.j0] at H
   replace H := bs H
   obtain ⟨⟨t248, t249⟩, A6, H⟩ := H
   dsimp only at H
   replace H := bs H
   obtain ⟨⟨t250, t251, t252⟩, A7, H⟩ := H
   dsimp only at H
   replace H := bs H
   obtain ⟨t254, A8, H⟩ := H
   replace H := bs H
   obtain ⟨t255, A9, H⟩ := H
   replace H := bs H
   obtain ⟨t256, A10, H⟩ := H
   obtain rfl := Option.some.inj H
   obtain ⟨hcz11_0, hcz11_1, hcz11_2, hcz11_3, hcz11_4, hcz11_5, hcz11_6, hfz11_0, hfz11_1, hfz11_2, hfz11_3, hfz11_4, hfz11_5, hfz11_6⟩ := cz7 (W := wc) BK247
   try go_wp2_with (first | ((with_reducible refine gate_callee (f := 103) rfl ?_); refine goesL_ (some 12) rfl rfl Tryz.func103 (by kernel_rfl) rfl #[.agg #[.int .u64 a0_0, .int .i64 a0_1, .int .u64 a0_2, .int .i64 a0_3, .int .i64 a0_4, .bool a0_5, .int .i32 a0_6]] rfl lz ?_; (with_reducible refine (floats_float_value.calls kj1 a0_0 a0_1 a0_2 a0_3 a0_4 a0_5 a0_6 t248 t249 _ A6.out).mono ?_); rintro e w12 ⟨rfl, hb⟩; refine ⟨_, rfl, ?_⟩; replace BK247 := kN (g := gb247) (cs := #[.int .u64 a0_0, .int .i64 a0_1, .int .u64 a0_2, .int .i64 a0_3, .int .i64 a0_4, .bool a0_5, .int .i32 a0_6]) hb bk; replace HB := bN bz hb; (try clear hb); (try clear hb2); (try clear hk); (try clear hi)) | ((with_reducible refine gate_callee (f := 32) rfl ?_); refine goesL_ (some 15) rfl rfl Tryz.func32 (by kernel_rfl) rfl #[.agg #[.string t248, .int .i64 t249], .int .i64 (wrap64 (x3_1 + 1))] rfl lz ?_; (with_reducible refine (bigdec_Round.calls kj1 t248 t249 (wrap64 (x3_1 + 1)) t250 t251 t252 _ A7.out).mono ?_); rintro e w13 ⟨rfl, hb⟩; refine ⟨_, rfl, ?_⟩; replace BK247 := kN (g := gb247) (cs := #[.int .u64 a0_0, .int .i64 a0_1, .int .u64 a0_2, .int .i64 a0_3, .int .i64 a0_4, .bool a0_5, .int .i32 a0_6]) hb bk; replace HB := bN bz hb; (try clear hb); (try clear hb2); (try clear hk); (try clear hi)) | ((with_reducible refine gate_dst (N := 4) rfl ?_); refine box_event rfl (N := 4) rfl (cs := #[.string (⟨#[]⟩ : ByteArray), .int .i64 0]) (t := 42) gz ?_; intro gb253 hg w14 hbox hb; have GE253 := gN bz hg; have NB247_253 := lN (g := gb247) (cs := #[.int .u64 a0_0, .int .i64 a0_1, .int .u64 a0_2, .int .i64 a0_3, .int .i64 a0_4, .bool a0_5, .int .i32 a0_6]) hg bk; have NB253_247 := rN (g := gb247) (cs := #[.int .u64 a0_0, .int .i64 a0_1, .int .u64 a0_2, .int .i64 a0_3, .int .i64 a0_4, .bool a0_5, .int .i32 a0_6]) hg bk; replace BK247 := kN (g := gb247) (cs := #[.int .u64 a0_0, .int .i64 a0_1, .int .u64 a0_2, .int .i64 a0_3, .int .i64 a0_4, .bool a0_5, .int .i32 a0_6]) hb bk; have BK253 := Aside0.mk hbox; replace HB := bN bz hb; clear hb hbox hg; have hnb15 := NB253_247.out; have hnc15 := NB247_253.out; obtain ⟨hcz16_0, hcz16_1, hfz16_0, hfz16_1⟩ := cz2 (W := w14) BK253))
   have n0_ : Aside0 (((w14.setCell ⟨gb253, 0, none⟩ (.string t250)).setCell ⟨gb253, 1, none⟩ (.int .i64 t251)).heap[gb247]? = some (.cells #[.int .u64 a0_0, .int .i64 a0_1, .int .u64 a0_2, .int .i64 a0_3, .int .i64 a0_4, .bool a0_5, .int .i32 a0_6] 74 (0, 0))) := ⟨bk⟩
   have n1_ : Aside0 (((w14.setCell ⟨gb253, 0, none⟩ (.string t250)).setCell ⟨gb253, 1, none⟩ (.int .i64 t251)).heap[gb253]? = some (.cells #[.string t250, .int .i64 t251] 42 (0, 0))) := ⟨bk⟩
   have n2_ : Aside0 (Below w.heap.size w ((w14.setCell ⟨gb253, 0, none⟩ (.string t250)).setCell ⟨gb253, 1, none⟩ (.int .i64 t251))) := ⟨bz⟩
   (try clear BK247)
   (try clear BK253)
   (try clear HB)
   generalize ((w14.setCell ⟨gb253, 0, none⟩ (.string t250)).setCell ⟨gb253, 1, none⟩ (.int .i64 t251)) = w17 at n0_ n1_ n2_ ⊢
   have BK247 := n0_
   have BK253 := n1_
   have HB := n2_
   clear n0_ n1_ n2_
   replace BK247 := Aside0.mk (blk_drew BK247.out)
   replace BK253 := Aside0.mk (blk_drew BK253.out)
   replace HB := Aside0.mk (below_drew1 HB.out)
   refine start_ (n := 10) (S := fun w' => w'.cell? ⟨gb247, 0, none⟩ = some (.int .u64 a0_0) ∧ w'.cell? ⟨gb247, 1, none⟩ = some (.int .i64 a0_1) ∧ w'.cell? ⟨gb247, 2, none⟩ = some (.int .u64 a0_2) ∧ w'.cell? ⟨gb247, 3, none⟩ = some (.int .i64 a0_3) ∧ w'.cell? ⟨gb247, 4, none⟩ = some (.int .i64 a0_4) ∧ w'.cell? ⟨gb247, 5, none⟩ = some (.bool a0_5) ∧ w'.cell? ⟨gb247, 6, none⟩ = some (.int .i32 a0_6) ∧ w'.cell? ⟨gb253, 0, none⟩ = some (.string t250) ∧ w'.cell? ⟨gb253, 1, none⟩ = some (.int .i64 t251)) (ds := []) #[false, false, false, false, false, false, false, false, false, false] (by kernel_rfl) rfl rfl ⟨(blk_cell BK247.out 0).trans rfl, (blk_cell BK247.out 1).trans rfl, (blk_cell BK247.out 2).trans rfl, (blk_cell BK247.out 3).trans rfl, (blk_cell BK247.out 4).trans rfl, (blk_cell BK247.out 5).trans rfl, (blk_cell BK247.out 6).trans rfl, (blk_cell BK253.out 0).trans rfl, (blk_cell BK253.out 1).trans rfl⟩ (fun hHeld => ?_); refine with_tabW floats_float_scaled.tab5 floats_float_scaled.bits5 (fun HT_ HW_ => ?_)
   generalize w17.drew = w18 at BK247 BK253 HB hHeld ⊢
   refine pure_ (i := 1) (N := some 19) (v := ?_) (a' := ?_) #[false, true, false, false, false, false, false, false, false, false] rfl rfl (any_of HT_.out (by kernel_rfl)) (fun _ _ _ h => h) (Or.inl ⟨by rfl, ?_⟩) ?_ ?_
   rotate_left
   ·intro w'
    go_simp
    with_reducible rfl
   rotate_left
   ·simp only [Act.put, List.setIfInBounds_toArray, List.set_cons_zero, List.set_cons_succ, i64_w, i32_w]
    rfl
   refine pure_ (i := 3) (N := some 21) (v := ?_) (a' := ?_) #[false, true, false, true, false, false, false, false, false, false] rfl rfl (any_of HT_.out (by kernel_rfl)) (fun _ _ _ h => h) (Or.inl ⟨by rfl, ?_⟩) ?_ ?_
   rotate_left
   ·intro w'
    go_simp
    with_reducible rfl
   rotate_left
   ·simp only [Act.put, List.setIfInBounds_toArray, List.set_cons_zero, List.set_cons_succ, i64_w, i32_w]
    rfl
   refine pure_ (i := 4) (N := some 22) (v := ?_) (a' := ?_) #[false, true, false, true, true, false, false, false, false, false] rfl rfl (any_of HT_.out (by kernel_rfl)) (fun _ _ _ h => h) (Or.inl ⟨by rfl, ?_⟩) ?_ ?_
   rotate_left
   ·intro w'
    go_simp
    with_reducible rfl
   rotate_left
   ·simp only [Act.put, List.setIfInBounds_toArray, List.set_cons_zero, List.set_cons_succ, i64_w, i32_w]
    rfl
   refine take_ (i := 0) (N := some 18) (v := ?_) (a' := ?_) #[true, true, false, true, true, false, false, false, false, false] rfl rfl (take_ofW HT_.out HW_.out (by kernel_rfl)) (fun _ _ _ h => h) (Or.inl ⟨by rfl, ?_⟩) hHeld ?_ ?_
   rotate_left
   ·rintro w' ⟨s0, s1, s2, s3, s4, s5, s6, s7, s8⟩
    go_simp
    with_reducible rfl
   rotate_left
   ·simp only [Act.put, List.setIfInBounds_toArray, List.set_cons_zero, List.set_cons_succ, i64_w, i32_w]
    rfl
   refine take_ (i := 2) (N := some 20) (v := ?_) (a' := ?_) #[true, true, true, true, true, false, false, false, false, false] rfl rfl (take_ofW HT_.out HW_.out (by kernel_rfl)) (fun _ _ _ h => h) (Or.inl ⟨by rfl, ?_⟩) hHeld ?_ ?_
   rotate_left
   ·rintro w' ⟨s0, s1, s2, s3, s4, s5, s6, s7, s8⟩
    go_simp
    with_reducible rfl
   rotate_left
   ·simp only [Act.put, List.setIfInBounds_toArray, List.set_cons_zero, List.set_cons_succ, i64_w, i32_w]
    rfl
   refine take_ (i := 6) (N := some 24) (v := ?_) (a' := ?_) #[true, true, true, true, true, false, true, false, false, false] rfl rfl (take_ofW HT_.out HW_.out (by kernel_rfl)) (fun _ _ _ h => h) (Or.inl ⟨by rfl, ?_⟩) hHeld ?_ ?_
   rotate_left
   ·rintro w' ⟨s0, s1, s2, s3, s4, s5, s6, s7, s8⟩
    go_simp
    with_reducible rfl
   rotate_left
   ·simp only [Act.put, List.setIfInBounds_toArray, List.set_cons_zero, List.set_cons_succ, i64_w, i32_w]
    rfl
   refine one_ (i := 5) (N := some 23) #[true, true, true, true, true, true, true, false, false, false] rfl rfl (one_of HT_.out (by kernel_rfl)) (by decide) (fun K hK => ?_)
   refine goes_ Tryz.func105 (by kernel_rfl) rfl #[.string t250, .int .i64 (wrap64 (x3_1 + 1))] (by rfl) rfl rfl lz ?_
   with_reducible refine (floats_filled.calls t250 (wrap64 (x3_1 + 1)) t254 _ A8.out).mono ?_
   rintro e w19 ⟨rfl, hb⟩
   refine ⟨_, rfl, ?_⟩
   replace BK247 := Aside0.mk (blk_below (g := gb247) (o := .cells #[.int .u64 a0_0, .int .i64 a0_1, .int .u64 a0_2, .int .i64 a0_3, .int .i64 a0_4, .bool a0_5, .int .i32 a0_6] 74 (0, 0)) bk hb)
   replace BK253 := Aside0.mk (blk_below (g := gb253) (o := .cells #[.string t250, .int .i64 t251] 42 (0, 0)) bk hb)
   replace HB := Aside0.mk (below_step bz hb)
   (try clear hb)
   (try clear hb2)
   (try clear hk)
   (try clear hi)
   refine hK.out _ _ ⟨(blk_cell BK247.out 0).trans rfl, (blk_cell BK247.out 1).trans rfl, (blk_cell BK247.out 2).trans rfl, (blk_cell BK247.out 3).trans rfl, (blk_cell BK247.out 4).trans rfl, (blk_cell BK247.out 5).trans rfl, (blk_cell BK247.out 6).trans rfl, (blk_cell BK253.out 0).trans rfl, (blk_cell BK253.out 1).trans rfl⟩ (fun hHeld => ?_)
   clear hK K
   refine norm_ (a' := ?_) ?_ ?_
   rotate_left
   ·show Act.put _ (some 23) _ = _
    simp only [Act.put, List.setIfInBounds_toArray, List.set_cons_zero, List.set_cons_succ, i64_w, i32_w]
    rfl
   refine one_ (i := 7) (N := some 25) #[true, true, true, true, true, true, true, true, false, false] rfl rfl (one_of HT_.out (by kernel_rfl)) (by decide) (fun K hK => ?_)
   refine goes_ Tryz.func106 (by kernel_rfl) rfl #[.agg #[.string t250, .int .i64 t251]] (by rfl) rfl rfl lz ?_
   with_reducible refine (floats_first.calls t250 t251 t255 _ A9.out).mono ?_
   rintro e w20 ⟨rfl, hb⟩
   refine ⟨_, rfl, ?_⟩
   replace BK247 := Aside0.mk (blk_below (g := gb247) (o := .cells #[.int .u64 a0_0, .int .i64 a0_1, .int .u64 a0_2, .int .i64 a0_3, .int .i64 a0_4, .bool a0_5, .int .i32 a0_6] 74 (0, 0)) bk hb)
   replace BK253 := Aside0.mk (blk_below (g := gb253) (o := .cells #[.string t250, .int .i64 t251] 42 (0, 0)) bk hb)
   replace HB := Aside0.mk (below_step bz hb)
   (try clear hb)
   (try clear hb2)
   (try clear hk)
   (try clear hi)
   refine hK.out _ _ ⟨(blk_cell BK247.out 0).trans rfl, (blk_cell BK247.out 1).trans rfl, (blk_cell BK247.out 2).trans rfl, (blk_cell BK247.out 3).trans rfl, (blk_cell BK247.out 4).trans rfl, (blk_cell BK247.out 5).trans rfl, (blk_cell BK247.out 6).trans rfl, (blk_cell BK253.out 0).trans rfl, (blk_cell BK253.out 1).trans rfl⟩ (fun hHeld => ?_)
   clear hK K
   refine norm_ (a' := ?_) ?_ ?_
   rotate_left
   ·show Act.put _ (some 25) _ = _
    simp only [Act.put, List.setIfInBounds_toArray, List.set_cons_zero, List.set_cons_succ, i64_w, i32_w]
    rfl
   refine one_ (i := 8) (N := some 26) #[true, true, true, true, true, true, true, true, true, false] rfl rfl (one_of HT_.out (by kernel_rfl)) (by decide) (fun K hK => ?_)
   refine goes_ Tryz.func104 (by kernel_rfl) rfl #[.agg #[.int .u64 a0_0, .int .i64 a0_1, .int .u64 a0_2, .int .i64 a0_3, .int .i64 a0_4, .bool a0_5, .int .i32 a0_6], .string t254, .int .i64 t255] (by rfl) rfl rfl lz ?_
   with_reducible refine (floats_float_scientific.calls kj1 a0_0 a0_1 a0_2 a0_3 a0_4 a0_5 a0_6 t254 t255 t256 _ A10.out).mono ?_
   rintro e w21 ⟨rfl, hb⟩
   refine ⟨_, rfl, ?_⟩
   replace BK247 := Aside0.mk (blk_below (g := gb247) (o := .cells #[.int .u64 a0_0, .int .i64 a0_1, .int .u64 a0_2, .int .i64 a0_3, .int .i64 a0_4, .bool a0_5, .int .i32 a0_6] 74 (0, 0)) bk hb)
   replace BK253 := Aside0.mk (blk_below (g := gb253) (o := .cells #[.string t250, .int .i64 t251] 42 (0, 0)) bk hb)
   replace HB := Aside0.mk (below_step bz hb)
   (try clear hb)
   (try clear hb2)
   (try clear hk)
   (try clear hi)
   refine hK.out _ _ ⟨(blk_cell BK247.out 0).trans rfl, (blk_cell BK247.out 1).trans rfl, (blk_cell BK247.out 2).trans rfl, (blk_cell BK247.out 3).trans rfl, (blk_cell BK247.out 4).trans rfl, (blk_cell BK247.out 5).trans rfl, (blk_cell BK247.out 6).trans rfl, (blk_cell BK253.out 0).trans rfl, (blk_cell BK253.out 1).trans rfl⟩ (fun hHeld => ?_)
   clear hK K
   refine norm_ (a' := ?_) ?_ ?_
   rotate_left
   ·show Act.put _ (some 26) _ = _
    simp only [Act.put, List.setIfInBounds_toArray, List.set_cons_zero, List.set_cons_succ, i64_w, i32_w]
    rfl
   refine pure_ (i := 9) (N := some 2) (v := ?_) (a' := ?_) #[true, true, true, true, true, true, true, true, true, true] rfl rfl (any_of HT_.out (by kernel_rfl)) (fun _ _ _ h => h) (Or.inl ⟨by rfl, ?_⟩) ?_ ?_
   rotate_left
   ·intro w'
    go_simp
    with_reducible rfl
   rotate_left
   ·simp only [Act.put, List.setIfInBounds_toArray, List.set_cons_zero, List.set_cons_succ, i64_w, i32_w]
    rfl
   refine done_ (done_of HT_.out (by kernel_rfl)) ?_
   try go_wp2
   go_ret
   exact ⟨ez, bz⟩
end Go.Proofs.YtecpgdfnamkfdaaGreatDoor.Fn
end
section
namespace Go.Proofs.YtecpgdfnamkfdaaGreatDoor.Fn
open Go.RowKit Go.Proofs.YtecpgdfnamkfdaaGreatDoorW.PrintWords Go.Proofs.YtecpgdfnamkfdaaGreatDoorW.PrintLast Go.Proofs.YtecpgdfnamkfdaaGreatDoorW.PrintMore
attribute [local go_sem] fnW_0 fnW_1 fnW_2 fnW_3 fnW_4 fnW_5 fnW_guard fnW_eql max2_int min2_int max_two min_two
set_option linter.unusedVariables false
set_option linter.unusedSimpArgs false
def floats_float_fixed.j0 : Nat → Int → Int → Int → Int → Int → Int → Bool → Int → Option (ByteArray)
 | 0, _, _, _, _, _, _, _, _ => none
 | k + 1, x3, x270000, x270001, x270002, x270003, x270004, x270005, x270006 => (floats_float_value.f k x270000 x270001 x270002 x270003 x270004 x270005 x270006).bind fun bt270 => ((bigdec_Places.f k bt270.1 bt270.2 x3).bind fun bt272 => (if bt272.1.toList = ([] : List UInt8) then ((strings_Repeat.f (⟨#[48]⟩ : ByteArray) x3).bind fun t276 => ((floats_float_pointed.f x270000 x270001 x270002 x270003 x270004 x270005 x270006 (⟨#[48]⟩ : ByteArray) t276).bind fun t277 => (some t277))) else (if bt272.2.1 ≤ 0 then ((strings_Repeat.f (⟨#[48]⟩ : ByteArray) (wrap64 (-bt272.2.1))).bind fun t278 => (if t278.size + bt272.1.size ≤ 9223372036854775807 then ((floats_filled.f (t278 ++ bt272.1) x3).bind fun t279 => ((floats_float_pointed.f x270000 x270001 x270002 x270003 x270004 x270005 x270006 (⟨#[48]⟩ : ByteArray) t279).bind fun t280 => (some t280))) else (none))) else ((floats_filled.f bt272.1 (wrap64 (bt272.2.1 + x3))).bind fun t281 => ((floats_float_around.f x270000 x270001 x270002 x270003 x270004 x270005 x270006 t281 bt272.2.1).bind fun t282 => (some t282))))))
def floats_float_fixed.f (k : Nat) (a0_0 : Int) (a0_1 : Int) (a0_2 : Int) (a0_3 : Int) (a0_4 : Int) (a0_5 : Bool) (a0_6 : Int) : Option (ByteArray) := if a0_4 < 0 then (floats_float_fixed.j0 k 6 a0_0 a0_1 a0_2 a0_3 a0_4 a0_5 a0_6) else (floats_float_fixed.j0 k a0_4 a0_0 a0_1 a0_2 a0_3 a0_4 a0_5 a0_6)
def floats_float_fixed.T8 : Bool × List (List Nat × List Nat) := (true, [([], []), ([], []), ([1], [1]), ([2], [2]), ([3], [3]), ([], []), ([5], [5]), ([4, 6], [4, 6]), ([], []), ([7, 8, 4], [7, 8]), ([0, 9, 9], [0, 9]), ([10, 10, 0, 1, 2, 3, 4, 5, 6, 7, 8, 9, 10], [10])])
def floats_float_fixed.B8 : List Nat := [0, 0, 2, 6, 14, 0, 32, 126, 0, 510, 1023, 2047]
theorem floats_float_fixed.tab8 : rtab .any (opsOf Tryz.f67 8) = floats_float_fixed.T8 := by kernel_rfl
theorem floats_float_fixed.bits8 : waitsOk floats_float_fixed.T8.2 floats_float_fixed.B8 = true := by kernel_rfl
def floats_float_fixed.T9 : Bool × List (List Nat × List Nat) := (true, [([], []), ([], []), ([1], [1]), ([], []), ([3], [3]), ([], []), ([4, 5], [4, 5]), ([2, 6], [2, 6]), ([], []), ([8], [8]), ([0, 7, 9, 7], [0, 7, 9]), ([10, 10, 0, 1, 2, 3, 4, 5, 6, 7, 8, 9, 10], [10])])
def floats_float_fixed.B9 : List Nat := [0, 0, 2, 0, 8, 0, 56, 126, 0, 256, 1023, 2047]
theorem floats_float_fixed.tab9 : rtab .any (opsOf Tryz.f67 9) = floats_float_fixed.T9 := by kernel_rfl
theorem floats_float_fixed.bits9 : waitsOk floats_float_fixed.T9.2 floats_float_fixed.B9 = true := by kernel_rfl
set_option maxHeartbeats 8000000 in
set_option maxRecDepth 100000 in
theorem floats_float_fixed.calls (k : Nat) (a0_0 : Int) (a0_1 : Int) (a0_2 : Int) (a0_3 : Int) (a0_4 : Int) (a0_5 : Bool) (a0_6 : Int) (r : ByteArray) (w : World) (h : floats_float_fixed.f k a0_0 a0_1 a0_2 a0_3 a0_4 a0_5 a0_6 = some r) :
  Calls Tryz.prog 67 #[.agg #[.int .u64 a0_0, .int .i64 a0_1, .int .u64 a0_2, .int .i64 a0_3, .int .i64 a0_4, .bool a0_5, .int .i32 a0_6]] w fun e w' => e = .returned (.string r) ∧ Below w.heap.size w w' := by
 have hu74 := Tryz.underlying74
 have hu42 := Tryz.underlying42
 have HB := Aside0.mk (Below.refl w.heap.size w)
 have H : (if a0_4 < 0 then (floats_float_fixed.j0 k 6 a0_0 a0_1 a0_2 a0_3 a0_4 a0_5 a0_6) else (floats_float_fixed.j0 k a0_4 a0_0 a0_1 a0_2 a0_3 a0_4 a0_5 a0_6)) = some r := h
 clear h
 have HC2 := Aside0.mk H
 clear H
 go_enter Tryz.func67, Tryz.ntmps67
 go_upto_if 9 with (first | ((with_reducible refine gate_dst (N := 1) rfl ?_); refine box_event rfl (N := 1) rfl (cs := #[.int .u64 a0_0, .int .i64 a0_1, .int .u64 a0_2, .int .i64 a0_3, .int .i64 a0_4, .bool a0_5, .int .i32 a0_6]) (t := 74) gz ?_; intro gb269 hg w3 hbox hb; have GE269 := gN bz hg; have BK269 := Aside0.mk hbox; replace HB := bN bz hb; clear hb hbox hg; obtain ⟨hcz4_0, hcz4_1, hcz4_2, hcz4_3, hcz4_4, hcz4_5, hcz4_6, hfz4_0, hfz4_1, hfz4_2, hfz4_3, hfz4_4, hfz4_5, hfz4_6⟩ := cz7 (W := w3) BK269))
 (try simp only [Act.put, List.setIfInBounds_toArray, List.set_cons_zero, List.set_cons_succ])
 go_cut [3] (fun v3 wc => ∃ (kq : Nat) (x3_1 : Int), v3 = .int .i64 x3_1 ∧ Aside0 (floats_float_fixed.j0 kq x3_1 a0_0 a0_1 a0_2 a0_3 a0_4 a0_5 a0_6 = some r) ∧ Aside0 (kq ≤ k) ∧ Aside0 (wc.heap[gb269]? = some (.cells #[.int .u64 a0_0, .int .i64 a0_1, .int .u64 a0_2, .int .i64 a0_3, .int .i64 a0_4, .bool a0_5, .int .i32 a0_6] 74 (0, 0))) ∧ Aside0 (Below w.heap.size w wc))
 case first =>
  have H := HC2.out
  clear HC2
  by_cases c5 : a0_4 < 0
  ·replace H := hE H c5
   have c5b0 := decide_eq_true c5
   clear c5
   try rw [c5b0]
   have H' := Aside0.mk H
   clear H
   go_wp2
   go_meet
   case rel => exact ⟨_, (6), rz, H', ⟨by first | omega | exact Nat.le_refl _⟩, ⟨bk⟩, ⟨bz⟩⟩
  ·replace H := hN H c5
   have c5b0 := decide_eq_false c5
   clear c5
   try rw [c5b0]
   have H' := Aside0.mk H
   clear H
   go_wp2
   go_meet
   case rel => exact ⟨_, (a0_4), rz, H', ⟨by first | omega | exact Nat.le_refl _⟩, ⟨bk⟩, ⟨bz⟩⟩
 case rest =>
  clear HC2
  try clear c5
  try clear c5b0
  try clear hcz4_0 hcz4_1 hcz4_2 hcz4_3 hcz4_4 hcz4_5 hcz4_6 hfz4_0 hfz4_1 hfz4_2 hfz4_3 hfz4_4 hfz4_5 hfz4_6
  obtain ⟨kq, x3_1, rfl, HA, HJ1, BK269, HB⟩ := hcut
  cases kq with
  | zero => exact absurd HA.out (by simp [floats_float_fixed.j0])
  | succ kj1 =>
   have H := HA.out
   clear HA
   simp only [floats_float_fixed.j0] at H
   replace H := bs H
   obtain ⟨⟨t270, t271⟩, A6, H⟩ := H
   dsimp only at H
   replace H := bs H
   obtain ⟨⟨t272, t273, t274⟩, A7, H⟩ := H
   dsimp only at H
   obtain ⟨hcz8_0, hcz8_1, hcz8_2, hcz8_3, hcz8_4, hcz8_5, hcz8_6, hfz8_0, hfz8_1, hfz8_2, hfz8_3, hfz8_4, hfz8_5, hfz8_6⟩ := cz7 (W := wc) BK269
   go_upto_if 17 with (first | ((with_reducible refine gate_callee (f := 103) rfl ?_); refine goesL_ (some 12) rfl rfl Tryz.func103 (by kernel_rfl) rfl #[.agg #[.int .u64 a0_0, .int .i64 a0_1, .int .u64 a0_2, .int .i64 a0_3, .int .i64 a0_4, .bool a0_5, .int .i32 a0_6]] rfl lz ?_; (with_reducible refine (floats_float_value.calls kj1 a0_0 a0_1 a0_2 a0_3 a0_4 a0_5 a0_6 t270 t271 _ A6.out).mono ?_); rintro e w9 ⟨rfl, hb⟩; refine ⟨_, rfl, ?_⟩; replace BK269 := kN (g := gb269) (cs := #[.int .u64 a0_0, .int .i64 a0_1, .int .u64 a0_2, .int .i64 a0_3, .int .i64 a0_4, .bool a0_5, .int .i32 a0_6]) hb bk; replace HB := bN bz hb; (try clear hb); (try clear hb2); (try clear hk); (try clear hi)) | ((with_reducible refine gate_callee (f := 33) rfl ?_); refine goesL_ (some 14) rfl rfl Tryz.func33 (by kernel_rfl) rfl #[.agg #[.string t270, .int .i64 t271], .int .i64 x3_1] rfl lz ?_; (with_reducible refine (bigdec_Places.calls kj1 t270 t271 x3_1 t272 t273 t274 _ A7.out).mono ?_); rintro e w10 ⟨rfl, hb⟩; refine ⟨_, rfl, ?_⟩; replace BK269 := kN (g := gb269) (cs := #[.int .u64 a0_0, .int .i64 a0_1, .int .u64 a0_2, .int .i64 a0_3, .int .i64 a0_4, .bool a0_5, .int .i32 a0_6]) hb bk; replace HB := bN bz hb; (try clear hb); (try clear hb2); (try clear hk); (try clear hi)) | ((with_reducible refine gate_dst (N := 4) rfl ?_); refine box_event rfl (N := 4) rfl (cs := #[.string (⟨#[]⟩ : ByteArray), .int .i64 0]) (t := 42) gz ?_; intro gb275 hg w11 hbox hb; have GE275 := gN bz hg; have NB269_275 := lN (g := gb269) (cs := #[.int .u64 a0_0, .int .i64 a0_1, .int .u64 a0_2, .int .i64 a0_3, .int .i64 a0_4, .bool a0_5, .int .i32 a0_6]) hg bk; have NB275_269 := rN (g := gb269) (cs := #[.int .u64 a0_0, .int .i64 a0_1, .int .u64 a0_2, .int .i64 a0_3, .int .i64 a0_4, .bool a0_5, .int .i32 a0_6]) hg bk; replace BK269 := kN (g := gb269) (cs := #[.int .u64 a0_0, .int .i64 a0_1, .int .u64 a0_2, .int .i64 a0_3, .int .i64 a0_4, .bool a0_5, .int .i32 a0_6]) hb bk; have BK275 := Aside0.mk hbox; replace HB := bN bz hb; clear hb hbox hg; have hnb12 := NB275_269.out; have hnc12 := NB269_275.out; obtain ⟨hcz13_0, hcz13_1, hfz13_0, hfz13_1⟩ := cz2 (W := w11) BK275))
   (try simp only [Act.put, List.setIfInBounds_toArray, List.set_cons_zero, List.set_cons_succ])
   by_cases c14 : t272.toList = ([] : List UInt8)
   ·replace H := hE H c14
    have c14b0 : (t272.toList == ([] : List UInt8)) = true := beq_iff_eq.mpr c14
    have c14b1 : (t272.toList != ([] : List UInt8)) = false := bne_eq_false_iff_eq.mpr c14
    have c14b7 : t272.toList.isEmpty = true := by simpa using c14b0
    clear c14
    try first | rw [c14b0] | rw [c14b1] | rw [c14b7]
    replace H := bs H
    obtain ⟨t276, A15, H⟩ := H
    replace H := bs H
    obtain ⟨t277, A16, H⟩ := H
    obtain rfl := Option.some.inj H
    try go_wp2
    have n0_ : Aside0 (((w11.setCell ⟨gb275, 0, none⟩ (.string t272)).setCell ⟨gb275, 1, none⟩ (.int .i64 t273)).heap[gb269]? = some (.cells #[.int .u64 a0_0, .int .i64 a0_1, .int .u64 a0_2, .int .i64 a0_3, .int .i64 a0_4, .bool a0_5, .int .i32 a0_6] 74 (0, 0))) := ⟨bk⟩
    have n1_ : Aside0 (((w11.setCell ⟨gb275, 0, none⟩ (.string t272)).setCell ⟨gb275, 1, none⟩ (.int .i64 t273)).heap[gb275]? = some (.cells #[.string t272, .int .i64 t273] 42 (0, 0))) := ⟨bk⟩
    have n2_ : Aside0 (Below w.heap.size w ((w11.setCell ⟨gb275, 0, none⟩ (.string t272)).setCell ⟨gb275, 1, none⟩ (.int .i64 t273))) := ⟨bz⟩
    (try clear BK269)
    (try clear BK275)
    (try clear HB)
    generalize ((w11.setCell ⟨gb275, 0, none⟩ (.string t272)).setCell ⟨gb275, 1, none⟩ (.int .i64 t273)) = w17 at n0_ n1_ n2_ ⊢
    have BK269 := n0_
    have BK275 := n1_
    have HB := n2_
    clear n0_ n1_ n2_
    replace BK269 := Aside0.mk (blk_drew BK269.out)
    replace BK275 := Aside0.mk (blk_drew BK275.out)
    replace HB := Aside0.mk (below_drew1 HB.out)
    refine start_ (n := 5) (S := fun w' => w'.cell? ⟨gb269, 0, none⟩ = some (.int .u64 a0_0) ∧ w'.cell? ⟨gb269, 1, none⟩ = some (.int .i64 a0_1) ∧ w'.cell? ⟨gb269, 2, none⟩ = some (.int .u64 a0_2) ∧ w'.cell? ⟨gb269, 3, none⟩ = some (.int .i64 a0_3) ∧ w'.cell? ⟨gb269, 4, none⟩ = some (.int .i64 a0_4) ∧ w'.cell? ⟨gb269, 5, none⟩ = some (.bool a0_5) ∧ w'.cell? ⟨gb269, 6, none⟩ = some (.int .i32 a0_6)) (ds := []) #[false, false, false, false, false] (by kernel_rfl) rfl rfl ⟨(blk_cell BK269.out 0).trans rfl, (blk_cell BK269.out 1).trans rfl, (blk_cell BK269.out 2).trans rfl, (blk_cell BK269.out 3).trans rfl, (blk_cell BK269.out 4).trans rfl, (blk_cell BK269.out 5).trans rfl, (blk_cell BK269.out 6).trans rfl⟩ (fun hHeld => ?_)
    generalize w17.drew = w18 at BK269 BK275 HB hHeld ⊢
    refine pure_ (i := 1) (N := some 22) (v := ?_) (a' := ?_) #[false, true, false, false, false] rfl rfl (by kernel_rfl) (fun _ _ _ h => h) (Or.inl ⟨by rfl, ?_⟩) ?_ ?_
    rotate_left
    ·intro w'
     go_simp
     with_reducible rfl
    rotate_left
    ·simp only [Act.put, List.setIfInBounds_toArray, List.set_cons_zero, List.set_cons_succ, i64_w, i32_w]
     rfl
    refine take_ (i := 0) (N := some 21) (v := ?_) (a' := ?_) #[true, true, false, false, false] rfl rfl (by kernel_rfl) (fun _ _ _ h => h) (Or.inl ⟨by rfl, ?_⟩) hHeld ?_ ?_
    rotate_left
    ·rintro w' ⟨s0, s1, s2, s3, s4, s5, s6⟩
     go_simp
     with_reducible rfl
    rotate_left
    ·simp only [Act.put, List.setIfInBounds_toArray, List.set_cons_zero, List.set_cons_succ, i64_w, i32_w]
     rfl
    refine one_ (i := 2) (N := some 23) #[true, true, true, false, false] rfl rfl (by kernel_rfl) (by decide) (fun K hK => ?_)
    refine goes_ Tryz.func46 (by kernel_rfl) rfl #[.string (⟨#[48]⟩ : ByteArray), .int .i64 x3_1] (by rfl) rfl rfl lz ?_
    with_reducible refine (strings_Repeat.calls (⟨#[48]⟩ : ByteArray) x3_1 t276 _ A15.out).mono ?_
    rintro e w19 ⟨rfl, hb⟩
    refine ⟨_, rfl, ?_⟩
    replace BK269 := Aside0.mk (blk_below (g := gb269) (o := .cells #[.int .u64 a0_0, .int .i64 a0_1, .int .u64 a0_2, .int .i64 a0_3, .int .i64 a0_4, .bool a0_5, .int .i32 a0_6] 74 (0, 0)) bk hb)
    replace BK275 := Aside0.mk (blk_below (g := gb275) (o := .cells #[.string t272, .int .i64 t273] 42 (0, 0)) bk hb)
    replace HB := Aside0.mk (below_step bz hb)
    (try clear hb)
    (try clear hb2)
    (try clear hk)
    (try clear hi)
    refine hK.out _ _ ⟨(blk_cell BK269.out 0).trans rfl, (blk_cell BK269.out 1).trans rfl, (blk_cell BK269.out 2).trans rfl, (blk_cell BK269.out 3).trans rfl, (blk_cell BK269.out 4).trans rfl, (blk_cell BK269.out 5).trans rfl, (blk_cell BK269.out 6).trans rfl⟩ (fun hHeld => ?_)
    clear hK K
    refine norm_ (a' := ?_) ?_ ?_
    rotate_left
    ·show Act.put _ (some 23) _ = _
     simp only [Act.put, List.setIfInBounds_toArray, List.set_cons_zero, List.set_cons_succ, i64_w, i32_w]
     rfl
    refine one_ (i := 3) (N := some 24) #[true, true, true, true, false] rfl rfl (by kernel_rfl) (by decide) (fun K hK => ?_)
    refine goes_ Tryz.func107 (by kernel_rfl) rfl #[.agg #[.int .u64 a0_0, .int .i64 a0_1, .int .u64 a0_2, .int .i64 a0_3, .int .i64 a0_4, .bool a0_5, .int .i32 a0_6], .string (⟨#[48]⟩ : ByteArray), .string t276] (by rfl) rfl rfl lz ?_
    with_reducible refine (floats_float_pointed.calls a0_0 a0_1 a0_2 a0_3 a0_4 a0_5 a0_6 (⟨#[48]⟩ : ByteArray) t276 t277 _ A16.out).mono ?_
    rintro e w20 ⟨rfl, hb⟩
    refine ⟨_, rfl, ?_⟩
    replace BK269 := Aside0.mk (blk_below (g := gb269) (o := .cells #[.int .u64 a0_0, .int .i64 a0_1, .int .u64 a0_2, .int .i64 a0_3, .int .i64 a0_4, .bool a0_5, .int .i32 a0_6] 74 (0, 0)) bk hb)
    replace BK275 := Aside0.mk (blk_below (g := gb275) (o := .cells #[.string t272, .int .i64 t273] 42 (0, 0)) bk hb)
    replace HB := Aside0.mk (below_step bz hb)
    (try clear hb)
    (try clear hb2)
    (try clear hk)
    (try clear hi)
    refine hK.out _ _ ⟨(blk_cell BK269.out 0).trans rfl, (blk_cell BK269.out 1).trans rfl, (blk_cell BK269.out 2).trans rfl, (blk_cell BK269.out 3).trans rfl, (blk_cell BK269.out 4).trans rfl, (blk_cell BK269.out 5).trans rfl, (blk_cell BK269.out 6).trans rfl⟩ (fun hHeld => ?_)
    clear hK K
    refine norm_ (a' := ?_) ?_ ?_
    rotate_left
    ·show Act.put _ (some 24) _ = _
     simp only [Act.put, List.setIfInBounds_toArray, List.set_cons_zero, List.set_cons_succ, i64_w, i32_w]
     rfl
    refine pure_ (i := 4) (N := some 2) (v := ?_) (a' := ?_) #[true, true, true, true, true] rfl rfl (by kernel_rfl) (fun _ _ _ h => h) (Or.inl ⟨by rfl, ?_⟩) ?_ ?_
    rotate_left
    ·intro w'
     go_simp
     with_reducible rfl
    rotate_left
    ·simp only [Act.put, List.setIfInBounds_toArray, List.set_cons_zero, List.set_cons_succ, i64_w, i32_w]
     rfl
    refine done_ (by kernel_rfl) ?_
    try go_wp2
    go_ret
    exact ⟨ez, bz⟩
   ·replace H := hN H c14
    have c14b0 : (t272.toList == ([] : List UInt8)) = false := beq_eq_false_iff_ne.mpr c14
    have c14b1 : (t272.toList != ([] : List UInt8)) = true := bne_iff_ne.mpr c14
    have c14b7 : t272.toList.isEmpty = false := by simpa using c14b0
    try first | rw [c14b0] | rw [c14b1] | rw [c14b7]
    by_cases c21 : t273 ≤ 0
    ·replace H := hE H c21
     have c21b0 := decide_eq_true c21
     clear c21
     replace H := bs H
     obtain ⟨t278, A22, H⟩ := H
     by_cases c23 : t278.size + t272.size ≤ 9223372036854775807
     ·replace H := hE H c23
      have c23b0 := eq_true c23
      have c23b1 : decide (t278.size + t272.size ≤ 9223372036854775807) = true := decide_eq_true c23
      try have c23b2 : (9223372036854775807 < t278.size + t272.size) = False := eq_false (Nat.not_lt.2 c23)
      replace H := bs H
      obtain ⟨t279, A24, H⟩ := H
      replace H := bs H
      obtain ⟨t280, A25, H⟩ := H
      obtain rfl := Option.some.inj H
      have hnb26 := NB275_269.out
      have hnc26 := NB269_275.out
      obtain ⟨hcz27_0, hcz27_1, hfz27_0, hfz27_1⟩ := cz2 (W := w11) BK275
      try go_wp2
      have n0_ : Aside0 (((w11.setCell ⟨gb275, 0, none⟩ (.string t272)).setCell ⟨gb275, 1, none⟩ (.int .i64 t273)).heap[gb269]? = some (.cells #[.int .u64 a0_0, .int .i64 a0_1, .int .u64 a0_2, .int .i64 a0_3, .int .i64 a0_4, .bool a0_5, .int .i32 a0_6] 74 (0, 0))) := ⟨bk⟩
      have n1_ : Aside0 (((w11.setCell ⟨gb275, 0, none⟩ (.string t272)).setCell ⟨gb275, 1, none⟩ (.int .i64 t273)).heap[gb275]? = some (.cells #[.string t272, .int .i64 t273] 42 (0, 0))) := ⟨bk⟩
      have n2_ : Aside0 (Below w.heap.size w ((w11.setCell ⟨gb275, 0, none⟩ (.string t272)).setCell ⟨gb275, 1, none⟩ (.int .i64 t273))) := ⟨bz⟩
      (try clear BK269)
      (try clear BK275)
      (try clear HB)
      generalize ((w11.setCell ⟨gb275, 0, none⟩ (.string t272)).setCell ⟨gb275, 1, none⟩ (.int .i64 t273)) = w28 at n0_ n1_ n2_ ⊢
      have BK269 := n0_
      have BK275 := n1_
      have HB := n2_
      clear n0_ n1_ n2_
      replace BK269 := Aside0.mk (blk_drew BK269.out)
      replace BK275 := Aside0.mk (blk_drew BK275.out)
      replace HB := Aside0.mk (below_drew1 HB.out)
      refine start_ (n := 12) (S := fun w' => w'.cell? ⟨gb269, 0, none⟩ = some (.int .u64 a0_0) ∧ w'.cell? ⟨gb269, 1, none⟩ = some (.int .i64 a0_1) ∧ w'.cell? ⟨gb269, 2, none⟩ = some (.int .u64 a0_2) ∧ w'.cell? ⟨gb269, 3, none⟩ = some (.int .i64 a0_3) ∧ w'.cell? ⟨gb269, 4, none⟩ = some (.int .i64 a0_4) ∧ w'.cell? ⟨gb269, 5, none⟩ = some (.bool a0_5) ∧ w'.cell? ⟨gb269, 6, none⟩ = some (.int .i32 a0_6) ∧ w'.cell? ⟨gb275, 0, none⟩ = some (.string t272) ∧ w'.cell? ⟨gb275, 1, none⟩ = some (.int .i64 t273)) (ds := []) #[false, false, false, false, false, false, false, false, false, false, false, false] (by kernel_rfl) rfl rfl ⟨(blk_cell BK269.out 0).trans rfl, (blk_cell BK269.out 1).trans rfl, (blk_cell BK269.out 2).trans rfl, (blk_cell BK269.out 3).trans rfl, (blk_cell BK269.out 4).trans rfl, (blk_cell BK269.out 5).trans rfl, (blk_cell BK269.out 6).trans rfl, (blk_cell BK275.out 0).trans rfl, (blk_cell BK275.out 1).trans rfl⟩ (fun hHeld => ?_); refine with_tabW floats_float_fixed.tab8 floats_float_fixed.bits8 (fun HT_ HW_ => ?_)
      generalize w28.drew = w29 at BK269 BK275 HB hHeld ⊢
      refine pure_ (i := 1) (N := some 30) (v := ?_) (a' := ?_) #[false, true, false, false, false, false, false, false, false, false, false, false] rfl rfl (any_of HT_.out (by kernel_rfl)) (fun _ _ _ h => h) (Or.inl ⟨by rfl, ?_⟩) ?_ ?_
      rotate_left
      ·intro w'
       go_simp
       with_reducible rfl
      rotate_left
      ·simp only [Act.put, List.setIfInBounds_toArray, List.set_cons_zero, List.set_cons_succ, i64_w, i32_w]
       rfl
      refine pure_ (i := 5) (N := some 34) (v := ?_) (a' := ?_) #[false, true, false, false, false, true, false, false, false, false, false, false] rfl rfl (any_of HT_.out (by kernel_rfl)) (fun _ _ _ h => h) (Or.inl ⟨by rfl, ?_⟩) ?_ ?_
      rotate_left
      ·intro w'
       go_simp
       with_reducible rfl
      rotate_left
      ·simp only [Act.put, List.setIfInBounds_toArray, List.set_cons_zero, List.set_cons_succ, i64_w, i32_w]
       rfl
      refine pure_ (i := 8) (N := some 37) (v := ?_) (a' := ?_) #[false, true, false, false, false, true, false, false, true, false, false, false] rfl rfl (any_of HT_.out (by kernel_rfl)) (fun _ _ _ h => h) (Or.inl ⟨by rfl, ?_⟩) ?_ ?_
      rotate_left
      ·intro w'
       go_simp
       with_reducible rfl
      rotate_left
      ·simp only [Act.put, List.setIfInBounds_toArray, List.set_cons_zero, List.set_cons_succ, i64_w, i32_w]
       rfl
      refine take_ (i := 0) (N := some 29) (v := ?_) (a' := ?_) #[true, true, false, false, false, true, false, false, true, false, false, false] rfl rfl (take_ofW HT_.out HW_.out (by kernel_rfl)) (fun _ _ _ h => h) (Or.inl ⟨by rfl, ?_⟩) hHeld ?_ ?_
      rotate_left
      ·rintro w' ⟨s0, s1, s2, s3, s4, s5, s6, s7, s8⟩
       go_simp
       with_reducible rfl
      rotate_left
      ·simp only [Act.put, List.setIfInBounds_toArray, List.set_cons_zero, List.set_cons_succ, i64_w, i32_w]
       rfl
      refine take_ (i := 2) (N := some 31) (v := ?_) (a' := ?_) #[true, true, true, false, false, true, false, false, true, false, false, false] rfl rfl (take_ofW HT_.out HW_.out (by kernel_rfl)) (fun _ _ _ h => h) (Or.inl ⟨by rfl, ?_⟩) hHeld ?_ ?_
      rotate_left
      ·rintro w' ⟨s0, s1, s2, s3, s4, s5, s6, s7, s8⟩
       go_simp
       with_reducible rfl
      rotate_left
      ·simp only [Act.put, List.setIfInBounds_toArray, List.set_cons_zero, List.set_cons_succ, i64_w, i32_w]
       rfl
      refine pure_ (i := 3) (N := some 32) (v := ?_) (a' := ?_) #[true, true, true, true, false, true, false, false, true, false, false, false] rfl rfl (any_of HT_.out (by kernel_rfl)) (fun _ _ _ h => h) (Or.inl ⟨by rfl, ?_⟩) ?_ ?_
      rotate_left
      ·intro w'
       go_simp
       with_reducible rfl
      rotate_left
      ·simp only [Act.put, List.setIfInBounds_toArray, List.set_cons_zero, List.set_cons_succ, i64_w, i32_w]
       rfl
      refine take_ (i := 6) (N := some 35) (v := ?_) (a' := ?_) #[true, true, true, true, false, true, true, false, true, false, false, false] rfl rfl (take_ofW HT_.out HW_.out (by kernel_rfl)) (fun _ _ _ h => h) (Or.inl ⟨by rfl, ?_⟩) hHeld ?_ ?_
      rotate_left
      ·rintro w' ⟨s0, s1, s2, s3, s4, s5, s6, s7, s8⟩
       go_simp
       with_reducible rfl
      rotate_left
      ·simp only [Act.put, List.setIfInBounds_toArray, List.set_cons_zero, List.set_cons_succ, i64_w, i32_w]
       rfl
      refine one_ (i := 4) (N := some 33) #[true, true, true, true, true, true, true, false, true, false, false, false] rfl rfl (one_of HT_.out (by kernel_rfl)) (by decide) (fun K hK => ?_)
      refine goes_ Tryz.func46 (by kernel_rfl) rfl #[.string (⟨#[48]⟩ : ByteArray), .int .i64 (wrap64 (-t273))] (by rfl) rfl rfl lz ?_
      with_reducible refine (strings_Repeat.calls (⟨#[48]⟩ : ByteArray) (wrap64 (-t273)) t278 _ A22.out).mono ?_
      rintro e w30 ⟨rfl, hb⟩
      refine ⟨_, rfl, ?_⟩
      replace BK269 := Aside0.mk (blk_below (g := gb269) (o := .cells #[.int .u64 a0_0, .int .i64 a0_1, .int .u64 a0_2, .int .i64 a0_3, .int .i64 a0_4, .bool a0_5, .int .i32 a0_6] 74 (0, 0)) bk hb)
      replace BK275 := Aside0.mk (blk_below (g := gb275) (o := .cells #[.string t272, .int .i64 t273] 42 (0, 0)) bk hb)
      replace HB := Aside0.mk (below_step bz hb)
      (try clear hb)
      (try clear hb2)
      (try clear hk)
      (try clear hi)
      refine hK.out _ _ ⟨(blk_cell BK269.out 0).trans rfl, (blk_cell BK269.out 1).trans rfl, (blk_cell BK269.out 2).trans rfl, (blk_cell BK269.out 3).trans rfl, (blk_cell BK269.out 4).trans rfl, (blk_cell BK269.out 5).trans rfl, (blk_cell BK269.out 6).trans rfl, (blk_cell BK275.out 0).trans rfl, (blk_cell BK275.out 1).trans rfl⟩ (fun hHeld => ?_)
      clear hK K
      refine norm_ (a' := ?_) ?_ ?_
      rotate_left
      ·show Act.put _ (some 33) _ = _
       simp only [Act.put, List.setIfInBounds_toArray, List.set_cons_zero, List.set_cons_succ, i64_w, i32_w]
       rfl
      refine pure_ (i := 7) (N := some 36) (v := ?_) (a' := ?_) #[true, true, true, true, true, true, true, true, true, false, false, false] rfl rfl (any_of HT_.out (by kernel_rfl)) (fun _ _ _ h => h) (Or.inl ⟨by rfl, ?_⟩) ?_ ?_
      rotate_left
      ·intro w'
       go_simp
       with_reducible rfl
      rotate_left
      ·simp only [Act.put, List.setIfInBounds_toArray, List.set_cons_zero, List.set_cons_succ, i64_w, i32_w]
       rfl
      refine one_ (i := 9) (N := some 38) #[true, true, true, true, true, true, true, true, true, true, false, false] rfl rfl (one_of HT_.out (by kernel_rfl)) (by decide) (fun K hK => ?_)
      refine goes_ Tryz.func105 (by kernel_rfl) rfl #[.string (t278 ++ t272), .int .i64 x3_1] (by rfl) rfl rfl lz ?_
      with_reducible refine (floats_filled.calls (t278 ++ t272) x3_1 t279 _ A24.out).mono ?_
      rintro e w31 ⟨rfl, hb⟩
      refine ⟨_, rfl, ?_⟩
      replace BK269 := Aside0.mk (blk_below (g := gb269) (o := .cells #[.int .u64 a0_0, .int .i64 a0_1, .int .u64 a0_2, .int .i64 a0_3, .int .i64 a0_4, .bool a0_5, .int .i32 a0_6] 74 (0, 0)) bk hb)
      replace BK275 := Aside0.mk (blk_below (g := gb275) (o := .cells #[.string t272, .int .i64 t273] 42 (0, 0)) bk hb)
      replace HB := Aside0.mk (below_step bz hb)
      (try clear hb)
      (try clear hb2)
      (try clear hk)
      (try clear hi)
      refine hK.out _ _ ⟨(blk_cell BK269.out 0).trans rfl, (blk_cell BK269.out 1).trans rfl, (blk_cell BK269.out 2).trans rfl, (blk_cell BK269.out 3).trans rfl, (blk_cell BK269.out 4).trans rfl, (blk_cell BK269.out 5).trans rfl, (blk_cell BK269.out 6).trans rfl, (blk_cell BK275.out 0).trans rfl, (blk_cell BK275.out 1).trans rfl⟩ (fun hHeld => ?_)
      clear hK K
      refine norm_ (a' := ?_) ?_ ?_
      rotate_left
      ·show Act.put _ (some 38) _ = _
       simp only [Act.put, List.setIfInBounds_toArray, List.set_cons_zero, List.set_cons_succ, i64_w, i32_w]
       rfl
      refine one_ (i := 10) (N := some 39) #[true, true, true, true, true, true, true, true, true, true, true, false] rfl rfl (one_of HT_.out (by kernel_rfl)) (by decide) (fun K hK => ?_)
      refine goes_ Tryz.func107 (by kernel_rfl) rfl #[.agg #[.int .u64 a0_0, .int .i64 a0_1, .int .u64 a0_2, .int .i64 a0_3, .int .i64 a0_4, .bool a0_5, .int .i32 a0_6], .string (⟨#[48]⟩ : ByteArray), .string t279] (by rfl) rfl rfl lz ?_
      with_reducible refine (floats_float_pointed.calls a0_0 a0_1 a0_2 a0_3 a0_4 a0_5 a0_6 (⟨#[48]⟩ : ByteArray) t279 t280 _ A25.out).mono ?_
      rintro e w32 ⟨rfl, hb⟩
      refine ⟨_, rfl, ?_⟩
      replace BK269 := Aside0.mk (blk_below (g := gb269) (o := .cells #[.int .u64 a0_0, .int .i64 a0_1, .int .u64 a0_2, .int .i64 a0_3, .int .i64 a0_4, .bool a0_5, .int .i32 a0_6] 74 (0, 0)) bk hb)
      replace BK275 := Aside0.mk (blk_below (g := gb275) (o := .cells #[.string t272, .int .i64 t273] 42 (0, 0)) bk hb)
      replace HB := Aside0.mk (below_step bz hb)
      (try clear hb)
      (try clear hb2)
      (try clear hk)
      (try clear hi)
      refine hK.out _ _ ⟨(blk_cell BK269.out 0).trans rfl, (blk_cell BK269.out 1).trans rfl, (blk_cell BK269.out 2).trans rfl, (blk_cell BK269.out 3).trans rfl, (blk_cell BK269.out 4).trans rfl, (blk_cell BK269.out 5).trans rfl, (blk_cell BK269.out 6).trans rfl, (blk_cell BK275.out 0).trans rfl, (blk_cell BK275.out 1).trans rfl⟩ (fun hHeld => ?_)
      clear hK K
      refine norm_ (a' := ?_) ?_ ?_
      rotate_left
      ·show Act.put _ (some 39) _ = _
       simp only [Act.put, List.setIfInBounds_toArray, List.set_cons_zero, List.set_cons_succ, i64_w, i32_w]
       rfl
      refine pure_ (i := 11) (N := some 2) (v := ?_) (a' := ?_) #[true, true, true, true, true, true, true, true, true, true, true, true] rfl rfl (any_of HT_.out (by kernel_rfl)) (fun _ _ _ h => h) (Or.inl ⟨by rfl, ?_⟩) ?_ ?_
      rotate_left
      ·intro w'
       go_simp
       with_reducible rfl
      rotate_left
      ·simp only [Act.put, List.setIfInBounds_toArray, List.set_cons_zero, List.set_cons_succ, i64_w, i32_w]
       rfl
      refine done_ (done_of HT_.out (by kernel_rfl)) ?_
      try go_wp2
      go_ret
      exact ⟨ez, bz⟩
     ·replace H := hN H c23
      exact absurd H (by simp)
    ·replace H := hN H c21
     have c21b0 := decide_eq_false c21
     clear c21
     replace H := bs H
     obtain ⟨t281, A33, H⟩ := H
     replace H := bs H
     obtain ⟨t282, A34, H⟩ := H
     obtain rfl := Option.some.inj H
     have hnb35 := NB275_269.out
     have hnc35 := NB269_275.out
     obtain ⟨hcz36_0, hcz36_1, hfz36_0, hfz36_1⟩ := cz2 (W := w11) BK275
     try go_wp2
     have n0_ : Aside0 (((w11.setCell ⟨gb275, 0, none⟩ (.string t272)).setCell ⟨gb275, 1, none⟩ (.int .i64 t273)).heap[gb269]? = some (.cells #[.int .u64 a0_0, .int .i64 a0_1, .int .u64 a0_2, .int .i64 a0_3, .int .i64 a0_4, .bool a0_5, .int .i32 a0_6] 74 (0, 0))) := ⟨bk⟩
     have n1_ : Aside0 (((w11.setCell ⟨gb275, 0, none⟩ (.string t272)).setCell ⟨gb275, 1, none⟩ (.int .i64 t273)).heap[gb275]? = some (.cells #[.string t272, .int .i64 t273] 42 (0, 0))) := ⟨bk⟩
     have n2_ : Aside0 (Below w.heap.size w ((w11.setCell ⟨gb275, 0, none⟩ (.string t272)).setCell ⟨gb275, 1, none⟩ (.int .i64 t273))) := ⟨bz⟩
     (try clear BK269)
     (try clear BK275)
     (try clear HB)
     generalize ((w11.setCell ⟨gb275, 0, none⟩ (.string t272)).setCell ⟨gb275, 1, none⟩ (.int .i64 t273)) = w37 at n0_ n1_ n2_ ⊢
     have BK269 := n0_
     have BK275 := n1_
     have HB := n2_
     clear n0_ n1_ n2_
     replace BK269 := Aside0.mk (blk_drew BK269.out)
     replace BK275 := Aside0.mk (blk_drew BK275.out)
     replace HB := Aside0.mk (below_drew1 HB.out)
     refine start_ (n := 12) (S := fun w' => w'.cell? ⟨gb269, 0, none⟩ = some (.int .u64 a0_0) ∧ w'.cell? ⟨gb269, 1, none⟩ = some (.int .i64 a0_1) ∧ w'.cell? ⟨gb269, 2, none⟩ = some (.int .u64 a0_2) ∧ w'.cell? ⟨gb269, 3, none⟩ = some (.int .i64 a0_3) ∧ w'.cell? ⟨gb269, 4, none⟩ = some (.int .i64 a0_4) ∧ w'.cell? ⟨gb269, 5, none⟩ = some (.bool a0_5) ∧ w'.cell? ⟨gb269, 6, none⟩ = some (.int .i32 a0_6) ∧ w'.cell? ⟨gb275, 0, none⟩ = some (.string t272) ∧ w'.cell? ⟨gb275, 1, none⟩ = some (.int .i64 t273)) (ds := []) #[false, false, false, false, false, false, false, false, false, false, false, false] (by kernel_rfl) rfl rfl ⟨(blk_cell BK269.out 0).trans rfl, (blk_cell BK269.out 1).trans rfl, (blk_cell BK269.out 2).trans rfl, (blk_cell BK269.out 3).trans rfl, (blk_cell BK269.out 4).trans rfl, (blk_cell BK269.out 5).trans rfl, (blk_cell BK269.out 6).trans rfl, (blk_cell BK275.out 0).trans rfl, (blk_cell BK275.out 1).trans rfl⟩ (fun hHeld => ?_); refine with_tabW floats_float_fixed.tab9 floats_float_fixed.bits9 (fun HT_ HW_ => ?_)
     generalize w37.drew = w38 at BK269 BK275 HB hHeld ⊢
     refine pure_ (i := 1) (N := some 41) (v := ?_) (a' := ?_) #[false, true, false, false, false, false, false, false, false, false, false, false] rfl rfl (any_of HT_.out (by kernel_rfl)) (fun _ _ _ h => h) (Or.inl ⟨by rfl, ?_⟩) ?_ ?_
     rotate_left
     ·intro w'
      go_simp
      with_reducible rfl
     rotate_left
     ·simp only [Act.put, List.setIfInBounds_toArray, List.set_cons_zero, List.set_cons_succ, i64_w, i32_w]
      rfl
     refine pure_ (i := 3) (N := some 43) (v := ?_) (a' := ?_) #[false, true, false, true, false, false, false, false, false, false, false, false] rfl rfl (any_of HT_.out (by kernel_rfl)) (fun _ _ _ h => h) (Or.inl ⟨by rfl, ?_⟩) ?_ ?_
     rotate_left
     ·intro w'
      go_simp
      with_reducible rfl
     rotate_left
     ·simp only [Act.put, List.setIfInBounds_toArray, List.set_cons_zero, List.set_cons_succ, i64_w, i32_w]
      rfl
     refine pure_ (i := 5) (N := some 45) (v := ?_) (a' := ?_) #[false, true, false, true, false, true, false, false, false, false, false, false] rfl rfl (any_of HT_.out (by kernel_rfl)) (fun _ _ _ h => h) (Or.inl ⟨by rfl, ?_⟩) ?_ ?_
     rotate_left
     ·intro w'
      go_simp
      with_reducible rfl
     rotate_left
     ·simp only [Act.put, List.setIfInBounds_toArray, List.set_cons_zero, List.set_cons_succ, i64_w, i32_w]
      rfl
     refine pure_ (i := 8) (N := some 48) (v := ?_) (a' := ?_) #[false, true, false, true, false, true, false, false, true, false, false, false] rfl rfl (any_of HT_.out (by kernel_rfl)) (fun _ _ _ h => h) (Or.inl ⟨by rfl, ?_⟩) ?_ ?_
     rotate_left
     ·intro w'
      go_simp
      with_reducible rfl
     rotate_left
     ·simp only [Act.put, List.setIfInBounds_toArray, List.set_cons_zero, List.set_cons_succ, i64_w, i32_w]
      rfl
     refine take_ (i := 0) (N := some 40) (v := ?_) (a' := ?_) #[true, true, false, true, false, true, false, false, true, false, false, false] rfl rfl (take_ofW HT_.out HW_.out (by kernel_rfl)) (fun _ _ _ h => h) (Or.inl ⟨by rfl, ?_⟩) hHeld ?_ ?_
     rotate_left
     ·rintro w' ⟨s0, s1, s2, s3, s4, s5, s6, s7, s8⟩
      go_simp
      with_reducible rfl
     rotate_left
     ·simp only [Act.put, List.setIfInBounds_toArray, List.set_cons_zero, List.set_cons_succ, i64_w, i32_w]
      rfl
     refine take_ (i := 2) (N := some 42) (v := ?_) (a' := ?_) #[true, true, true, true, false, true, false, false, true, false, false, false] rfl rfl (take_ofW HT_.out HW_.out (by kernel_rfl)) (fun _ _ _ h => h) (Or.inl ⟨by rfl, ?_⟩) hHeld ?_ ?_
     rotate_left
     ·rintro w' ⟨s0, s1, s2, s3, s4, s5, s6, s7, s8⟩
      go_simp
      with_reducible rfl
     rotate_left
     ·simp only [Act.put, List.setIfInBounds_toArray, List.set_cons_zero, List.set_cons_succ, i64_w, i32_w]
      rfl
     refine take_ (i := 4) (N := some 44) (v := ?_) (a' := ?_) #[true, true, true, true, true, true, false, false, true, false, false, false] rfl rfl (take_ofW HT_.out HW_.out (by kernel_rfl)) (fun _ _ _ h => h) (Or.inl ⟨by rfl, ?_⟩) hHeld ?_ ?_
     rotate_left
     ·rintro w' ⟨s0, s1, s2, s3, s4, s5, s6, s7, s8⟩
      go_simp
      with_reducible rfl
     rotate_left
     ·simp only [Act.put, List.setIfInBounds_toArray, List.set_cons_zero, List.set_cons_succ, i64_w, i32_w]
      rfl
     refine pure_ (i := 6) (N := some 46) (v := ?_) (a' := ?_) #[true, true, true, true, true, true, true, false, true, false, false, false] rfl rfl (any_of HT_.out (by kernel_rfl)) (fun _ _ _ h => h) (Or.inl ⟨by rfl, ?_⟩) ?_ ?_
     rotate_left
     ·intro w'
      go_simp
      with_reducible rfl
     rotate_left
     ·simp only [Act.put, List.setIfInBounds_toArray, List.set_cons_zero, List.set_cons_succ, i64_w, i32_w]
      rfl
     refine take_ (i := 9) (N := some 49) (v := ?_) (a' := ?_) #[true, true, true, true, true, true, true, false, true, true, false, false] rfl rfl (take_ofW HT_.out HW_.out (by kernel_rfl)) (fun _ _ _ h => h) (Or.inl ⟨by rfl, ?_⟩) hHeld ?_ ?_
     rotate_left
     ·rintro w' ⟨s0, s1, s2, s3, s4, s5, s6, s7, s8⟩
      go_simp
      with_reducible rfl
     rotate_left
     ·simp only [Act.put, List.setIfInBounds_toArray, List.set_cons_zero, List.set_cons_succ, i64_w, i32_w]
      rfl
     refine one_ (i := 7) (N := some 47) #[true, true, true, true, true, true, true, true, true, true, false, false] rfl rfl (one_of HT_.out (by kernel_rfl)) (by decide) (fun K hK => ?_)
     refine goes_ Tryz.func105 (by kernel_rfl) rfl #[.string t272, .int .i64 (wrap64 (t273 + x3_1))] (by rfl) rfl rfl lz ?_
     with_reducible refine (floats_filled.calls t272 (wrap64 (t273 + x3_1)) t281 _ A33.out).mono ?_
     rintro e w39 ⟨rfl, hb⟩
     refine ⟨_, rfl, ?_⟩
     replace BK269 := Aside0.mk (blk_below (g := gb269) (o := .cells #[.int .u64 a0_0, .int .i64 a0_1, .int .u64 a0_2, .int .i64 a0_3, .int .i64 a0_4, .bool a0_5, .int .i32 a0_6] 74 (0, 0)) bk hb)
     replace BK275 := Aside0.mk (blk_below (g := gb275) (o := .cells #[.string t272, .int .i64 t273] 42 (0, 0)) bk hb)
     replace HB := Aside0.mk (below_step bz hb)
     (try clear hb)
     (try clear hb2)
     (try clear hk)
     (try clear hi)
     refine hK.out _ _ ⟨(blk_cell BK269.out 0).trans rfl, (blk_cell BK269.out 1).trans rfl, (blk_cell BK269.out 2).trans rfl, (blk_cell BK269.out 3).trans rfl, (blk_cell BK269.out 4).trans rfl, (blk_cell BK269.out 5).trans rfl, (blk_cell BK269.out 6).trans rfl, (blk_cell BK275.out 0).trans rfl, (blk_cell BK275.out 1).trans rfl⟩ (fun hHeld => ?_)
     clear hK K
     refine norm_ (a' := ?_) ?_ ?_
     rotate_left
     ·show Act.put _ (some 47) _ = _
      simp only [Act.put, List.setIfInBounds_toArray, List.set_cons_zero, List.set_cons_succ, i64_w, i32_w]
      rfl
     refine one_ (i := 10) (N := some 50) #[true, true, true, true, true, true, true, true, true, true, true, false] rfl rfl (one_of HT_.out (by kernel_rfl)) (by decide) (fun K hK => ?_)
     refine goes_ Tryz.func108 (by kernel_rfl) rfl #[.agg #[.int .u64 a0_0, .int .i64 a0_1, .int .u64 a0_2, .int .i64 a0_3, .int .i64 a0_4, .bool a0_5, .int .i32 a0_6], .string t281, .int .i64 t273] (by rfl) rfl rfl lz ?_
     with_reducible refine (floats_float_around.calls a0_0 a0_1 a0_2 a0_3 a0_4 a0_5 a0_6 t281 t273 t282 _ A34.out).mono ?_
     rintro e w40 ⟨rfl, hb⟩
     refine ⟨_, rfl, ?_⟩
     replace BK269 := Aside0.mk (blk_below (g := gb269) (o := .cells #[.int .u64 a0_0, .int .i64 a0_1, .int .u64 a0_2, .int .i64 a0_3, .int .i64 a0_4, .bool a0_5, .int .i32 a0_6] 74 (0, 0)) bk hb)
     replace BK275 := Aside0.mk (blk_below (g := gb275) (o := .cells #[.string t272, .int .i64 t273] 42 (0, 0)) bk hb)
     replace HB := Aside0.mk (below_step bz hb)
     (try clear hb)
     (try clear hb2)
     (try clear hk)
     (try clear hi)
     refine hK.out _ _ ⟨(blk_cell BK269.out 0).trans rfl, (blk_cell BK269.out 1).trans rfl, (blk_cell BK269.out 2).trans rfl, (blk_cell BK269.out 3).trans rfl, (blk_cell BK269.out 4).trans rfl, (blk_cell BK269.out 5).trans rfl, (blk_cell BK269.out 6).trans rfl, (blk_cell BK275.out 0).trans rfl, (blk_cell BK275.out 1).trans rfl⟩ (fun hHeld => ?_)
     clear hK K
     refine norm_ (a' := ?_) ?_ ?_
     rotate_left
     ·show Act.put _ (some 50) _ = _
      simp only [Act.put, List.setIfInBounds_toArray, List.set_cons_zero, List.set_cons_succ, i64_w, i32_w]
      rfl
     refine pure_ (i := 11) (N := some 2) (v := ?_) (a' := ?_) #[true, true, true, true, true, true, true, true, true, true, true, true] rfl rfl (any_of HT_.out (by kernel_rfl)) (fun _ _ _ h => h) (Or.inl ⟨by rfl, ?_⟩) ?_ ?_
     rotate_left
     ·intro w'
      go_simp
      with_reducible rfl
     rotate_left
     ·simp only [Act.put, List.setIfInBounds_toArray, List.set_cons_zero, List.set_cons_succ, i64_w, i32_w]
      rfl
     refine done_ (done_of HT_.out (by kernel_rfl)) ?_
     try go_wp2
     go_ret
     exact ⟨ez, bz⟩
end Go.Proofs.YtecpgdfnamkfdaaGreatDoor.Fn
end
section
namespace Go.Proofs.YtecpgdfnamkfdaaGreatDoor.Fn
open Go.RowKit Go.Proofs.YtecpgdfnamkfdaaGreatDoorW.PrintWords Go.Proofs.YtecpgdfnamkfdaaGreatDoorW.PrintLast Go.Proofs.YtecpgdfnamkfdaaGreatDoorW.PrintMore
attribute [local go_sem] fnW_0 fnW_1 fnW_2 fnW_3 fnW_4 fnW_5 fnW_guard fnW_eql max2_int min2_int max_two min_two
set_option linter.unusedVariables false
set_option linter.unusedSimpArgs false
mutual
def floats_float_general.j0 : Nat → Int → Int → Int → Int → Int → Int → Int → Bool → Int → ByteArray → Int → Option (ByteArray)
 | 0, _, _, _, _, _, _, _, _, _, _, _ => none
 | k + 1, x4, x5, x358000, x358001, x358002, x358003, x358004, x358005, x358006, x359000, x359001 => if x359000.toList = ([] : List UInt8) then (floats_float_general.j1 k x4 x5 (⟨#[48]⟩ : ByteArray) x358000 x358001 x358002 x358003 x358004 x358005 x358006 x359000 x359001) else (floats_float_general.j1 k x4 x5 x359000 x358000 x358001 x358002 x358003 x358004 x358005 x358006 x359000 x359001)
def floats_float_general.j1 : Nat → Int → Int → ByteArray → Int → Int → Int → Int → Int → Bool → Int → ByteArray → Int → Option (ByteArray)
 | 0, _, _, _, _, _, _, _, _, _, _, _, _ => none
 | k + 1, x4, x5, x6, x358000, x358001, x358002, x358003, x358004, x358005, x358006, x359000, x359001 => if x358005 = true then ((floats_filled.f x6 x5).bind fun t367 => (floats_float_general.j2 k x4 t367 x358000 x358001 x358002 x358003 x358004 x358005 x358006 x359000 x359001)) else (floats_float_general.j2 k x4 x6 x358000 x358001 x358002 x358003 x358004 x358005 x358006 x359000 x359001)
def floats_float_general.j2 : Nat → Int → ByteArray → Int → Int → Int → Int → Int → Bool → Int → ByteArray → Int → Option (ByteArray)
 | 0, _, _, _, _, _, _, _, _, _, _, _ => none
 | k + 1, x4, x6, x358000, x358001, x358002, x358003, x358004, x358005, x358006, x359000, x359001 => (floats_first.f x359000 x359001).bind fun t368 => (if t368 < (-4) then (floats_float_general.j3 k x6 t368 true x358000 x358001 x358002 x358003 x358004 x358005 x358006 x359000 x359001) else (floats_float_general.j3 k x6 t368 (decide (t368 ≥ x4)) x358000 x358001 x358002 x358003 x358004 x358005 x358006 x359000 x359001))
def floats_float_general.j3 : Nat → ByteArray → Int → Bool → Int → Int → Int → Int → Int → Bool → Int → ByteArray → Int → Option (ByteArray)
 | 0, _, _, _, _, _, _, _, _, _, _, _, _ => none
 | k + 1, x6, x7, x47, x358000, x358001, x358002, x358003, x358004, x358005, x358006, x359000, x359001 => if x47 = true then ((floats_float_scientific.f k x358000 x358001 x358002 x358003 x358004 x358005 x358006 x6 x7).bind fun t369 => (some t369)) else ((floats_first.f x359000 x359001).bind fun t370 => ((floats_float_around.f x358000 x358001 x358002 x358003 x358004 x358005 x358006 x6 (wrap64 (t370 + 1))).bind fun t371 => (some t371)))
end
def floats_float_general.f (k : Nat) (a0_0 : Int) (a0_1 : Int) (a0_2 : Int) (a0_3 : Int) (a0_4 : Int) (a0_5 : Bool) (a0_6 : Int) : Option (ByteArray) := if a0_4 < 0 then ((short_Shortest.f k a0_0 a0_1).bind fun bt359 => (floats_float_general.j0 k 21 6 a0_0 a0_1 a0_2 a0_3 a0_4 a0_5 a0_6 bt359.1 bt359.2.1)) else ((floats_float_value.f k a0_0 a0_1 a0_2 a0_3 a0_4 a0_5 a0_6).bind fun bt362 => ((bigdec_Round.f k bt362.1 bt362.2 (mx a0_4 1)).bind fun bt364 => (floats_float_general.j0 k (mx a0_4 1) (mx a0_4 1) a0_0 a0_1 a0_2 a0_3 a0_4 a0_5 a0_6 bt364.1 bt364.2.1)))
set_option maxHeartbeats 8000000 in
set_option maxRecDepth 100000 in
theorem floats_float_general.calls (k : Nat) (a0_0 : Int) (a0_1 : Int) (a0_2 : Int) (a0_3 : Int) (a0_4 : Int) (a0_5 : Bool) (a0_6 : Int) (r : ByteArray) (w : World) (h : floats_float_general.f k a0_0 a0_1 a0_2 a0_3 a0_4 a0_5 a0_6 = some r) :
  Calls Tryz.prog 68 #[.agg #[.int .u64 a0_0, .int .i64 a0_1, .int .u64 a0_2, .int .i64 a0_3, .int .i64 a0_4, .bool a0_5, .int .i32 a0_6]] w fun e w' => e = .returned (.string r) ∧ Below w.heap.size w w' := by
 have hu74 := Tryz.underlying74
 have hu42 := Tryz.underlying42
 have HB := Aside0.mk (Below.refl w.heap.size w)
 have H : (if a0_4 < 0 then ((short_Shortest.f k a0_0 a0_1).bind fun bt359 => (floats_float_general.j0 k 21 6 a0_0 a0_1 a0_2 a0_3 a0_4 a0_5 a0_6 bt359.1 bt359.2.1)) else ((floats_float_value.f k a0_0 a0_1 a0_2 a0_3 a0_4 a0_5 a0_6).bind fun bt362 => ((bigdec_Round.f k bt362.1 bt362.2 (mx a0_4 1)).bind fun bt364 => (floats_float_general.j0 k (mx a0_4 1) (mx a0_4 1) a0_0 a0_1 a0_2 a0_3 a0_4 a0_5 a0_6 bt364.1 bt364.2.1)))) = some r := h
 clear h
 have HC2 := Aside0.mk H
 clear H
 go_enter Tryz.func68, Tryz.ntmps68
 go_upto_if 10 with (first | ((with_reducible refine gate_dst (N := 1) rfl ?_); refine box_event rfl (N := 1) rfl (cs := #[.int .u64 a0_0, .int .i64 a0_1, .int .u64 a0_2, .int .i64 a0_3, .int .i64 a0_4, .bool a0_5, .int .i32 a0_6]) (t := 74) gz ?_; intro gb357 hg w3 hbox hb; have GE357 := gN bz hg; have BK357 := Aside0.mk hbox; replace HB := bN bz hb; clear hb hbox hg) | ((with_reducible refine gate_dst (N := 3) rfl ?_); refine box_event rfl (N := 3) rfl (cs := #[.string (⟨#[]⟩ : ByteArray), .int .i64 0]) (t := 42) gz ?_; intro gb358 hg w4 hbox hb; have GE358 := gN bz hg; have NB357_358 := lN (g := gb357) (cs := #[.int .u64 a0_0, .int .i64 a0_1, .int .u64 a0_2, .int .i64 a0_3, .int .i64 a0_4, .bool a0_5, .int .i32 a0_6]) hg bk; have NB358_357 := rN (g := gb357) (cs := #[.int .u64 a0_0, .int .i64 a0_1, .int .u64 a0_2, .int .i64 a0_3, .int .i64 a0_4, .bool a0_5, .int .i32 a0_6]) hg bk; replace BK357 := kN (g := gb357) (cs := #[.int .u64 a0_0, .int .i64 a0_1, .int .u64 a0_2, .int .i64 a0_3, .int .i64 a0_4, .bool a0_5, .int .i32 a0_6]) hb bk; have BK358 := Aside0.mk hbox; replace HB := bN bz hb; clear hb hbox hg; have hnb5 := NB357_358.out; have hnc5 := NB358_357.out; obtain ⟨hcz6_0, hcz6_1, hcz6_2, hcz6_3, hcz6_4, hcz6_5, hcz6_6, hfz6_0, hfz6_1, hfz6_2, hfz6_3, hfz6_4, hfz6_5, hfz6_6⟩ := cz7 (W := w4) BK357))
 (try simp only [Act.put, List.setIfInBounds_toArray, List.set_cons_zero, List.set_cons_succ])
 go_cut [4, 5] (fun v4 v5 wc => ∃ (kq : Nat) (x4_1 : Int) (x5_1 : Int) (x359000_1 : ByteArray) (x359001_1 : Int), v4 = .int .i64 x4_1 ∧ v5 = .int .i64 x5_1 ∧ Aside0 (floats_float_general.j0 kq x4_1 x5_1 a0_0 a0_1 a0_2 a0_3 a0_4 a0_5 a0_6 x359000_1 x359001_1 = some r) ∧ Aside0 (kq ≤ k) ∧ Aside0 (wc.heap[gb357]? = some (.cells #[.int .u64 a0_0, .int .i64 a0_1, .int .u64 a0_2, .int .i64 a0_3, .int .i64 a0_4, .bool a0_5, .int .i32 a0_6] 74 (0, 0))) ∧ Aside0 (wc.heap[gb358]? = some (.cells #[.string x359000_1, .int .i64 x359001_1] 42 (0, 0))) ∧ Aside0 (Below w.heap.size w wc))
 case first =>
  have H := HC2.out
  clear HC2
  by_cases c7 : a0_4 < 0
  ·replace H := hE H c7
   have c7b0 := decide_eq_true c7
   clear c7
   try rw [c7b0]
   replace H := bs H
   obtain ⟨⟨t359, t360, t361⟩, A8, H⟩ := H
   dsimp only at H
   have H' := Aside0.mk H
   clear H
   have hnb9 := NB357_358.out
   have hnc9 := NB358_357.out
   obtain ⟨hcz10_0, hcz10_1, hcz10_2, hcz10_3, hcz10_4, hcz10_5, hcz10_6, hfz10_0, hfz10_1, hfz10_2, hfz10_3, hfz10_4, hfz10_5, hfz10_6⟩ := cz7 (W := w4) BK357
   go_wp2_with (first | ((with_reducible refine gate_callee (f := 35) rfl ?_); refine goesL_ (some 16) rfl rfl Tryz.func35 (by kernel_rfl) rfl #[.int .u64 a0_0, .int .i64 a0_1] rfl lz ?_; (with_reducible refine (short_Shortest.calls k a0_0 a0_1 t359 t360 t361 _ A8.out).mono ?_); rintro e w11 ⟨rfl, hb⟩; refine ⟨_, rfl, ?_⟩; replace BK357 := kN (g := gb357) (cs := #[.int .u64 a0_0, .int .i64 a0_1, .int .u64 a0_2, .int .i64 a0_3, .int .i64 a0_4, .bool a0_5, .int .i32 a0_6]) hb bk; replace BK358 := kN (g := gb358) (cs := #[.string (⟨#[]⟩ : ByteArray), .int .i64 0]) hb bk; replace HB := bN bz hb; (try clear hb); (try clear hb2); (try clear hk); (try clear hi); obtain ⟨hcz12_0, hcz12_1, hfz12_0, hfz12_1⟩ := cz2 (W := w11) BK358))
   go_meet
   case rel => exact ⟨_, (21), (6), (t359), (t360), rz, rz, H', ⟨by first | omega | exact Nat.le_refl _⟩, ⟨bk⟩, ⟨bk⟩, ⟨bz⟩⟩
  ·replace H := hN H c7
   have c7b0 := decide_eq_false c7
   clear c7
   try rw [c7b0]
   obtain ⟨ji13, hji13⟩ : ∃ j_ : Int, (mx a0_4 1) = j_ := ⟨_, rfl⟩
   (first | rw [hji13] at H | simp only [hji13] at H)
   (try (have hji13l : 1 ≤ ji13 := by (rw [← hji13]; unfold mx; (repeat' split) <;> omega)))
   (try (have hji13m : 0 ≤ ji13 := by omega))
   have hji13_ : (if a0_4 < 1 then 1 else a0_4) = ji13 := hji13
   replace H := bs H
   obtain ⟨⟨t362, t363⟩, A14, H⟩ := H
   dsimp only at H
   replace H := bs H
   obtain ⟨⟨t364, t365, t366⟩, A15, H⟩ := H
   dsimp only at H
   have H' := Aside0.mk H
   clear H
   have hnb16 := NB357_358.out
   have hnc16 := NB358_357.out
   obtain ⟨hcz17_0, hcz17_1, hcz17_2, hcz17_3, hcz17_4, hcz17_5, hcz17_6, hfz17_0, hfz17_1, hfz17_2, hfz17_3, hfz17_4, hfz17_5, hfz17_6⟩ := cz7 (W := w4) BK357
   go_wp2_with (first | ((with_reducible refine gate_callee (f := 103) rfl ?_); refine goesL_ (some 25) rfl rfl Tryz.func103 (by kernel_rfl) rfl #[.agg #[.int .u64 a0_0, .int .i64 a0_1, .int .u64 a0_2, .int .i64 a0_3, .int .i64 a0_4, .bool a0_5, .int .i32 a0_6]] rfl lz ?_; (with_reducible refine (floats_float_value.calls k a0_0 a0_1 a0_2 a0_3 a0_4 a0_5 a0_6 t362 t363 _ A14.out).mono ?_); rintro e w18 ⟨rfl, hb⟩; refine ⟨_, rfl, ?_⟩; replace BK357 := kN (g := gb357) (cs := #[.int .u64 a0_0, .int .i64 a0_1, .int .u64 a0_2, .int .i64 a0_3, .int .i64 a0_4, .bool a0_5, .int .i32 a0_6]) hb bk; replace BK358 := kN (g := gb358) (cs := #[.string (⟨#[]⟩ : ByteArray), .int .i64 0]) hb bk; replace HB := bN bz hb; (try clear hb); (try clear hb2); (try clear hk); (try clear hi)) | ((with_reducible refine gate_callee (f := 32) rfl ?_); refine goesL_ (some 27) rfl rfl Tryz.func32 (by kernel_rfl) rfl #[.agg #[.string t362, .int .i64 t363], .int .i64 ji13] rfl (by (try simp only [List.map_toArray, List.map_cons, List.map_nil]); first | done | (simp only [hji13]; rfl) | rfl | (simp only [List.length_drop, List.length_take]; rfl)) ?_; (with_reducible refine (bigdec_Round.calls k t362 t363 ji13 t364 t365 t366 _ A15.out).mono ?_); rintro e w19 ⟨rfl, hb⟩; refine ⟨_, rfl, ?_⟩; replace BK357 := kN (g := gb357) (cs := #[.int .u64 a0_0, .int .i64 a0_1, .int .u64 a0_2, .int .i64 a0_3, .int .i64 a0_4, .bool a0_5, .int .i32 a0_6]) hb bk; replace BK358 := kN (g := gb358) (cs := #[.string (⟨#[]⟩ : ByteArray), .int .i64 0]) hb bk; replace HB := bN bz hb; (try clear hb); (try clear hb2); (try clear hk); (try clear hi); obtain ⟨hcz20_0, hcz20_1, hfz20_0, hfz20_1⟩ := cz2 (W := w19) BK358))
   go_meet
   case rel => exact ⟨_, (ji13), (ji13), (t364), (t365), (by first | rfl | (simp; done) | (simp only [← hji13] <;> (first | rfl | simp)) | (simp [*]; done)), (by first | rfl | (simp; done) | (simp only [← hji13] <;> (first | rfl | simp)) | (simp [*]; done)), H', ⟨by first | omega | exact Nat.le_refl _⟩, ⟨bk⟩, ⟨bk⟩, ⟨bz⟩⟩
 case rest =>
  clear HC2
  try clear c7
  try clear c7b0
  try clear hcz10_0 hcz10_1 hcz10_2 hcz10_3 hcz10_4 hcz10_5 hcz10_6 hfz10_0 hfz10_1 hfz10_2 hfz10_3 hfz10_4 hfz10_5 hfz10_6
  try clear hcz12_0 hcz12_1 hfz12_0 hfz12_1
  try clear hcz17_0 hcz17_1 hcz17_2 hcz17_3 hcz17_4 hcz17_5 hcz17_6 hfz17_0 hfz17_1 hfz17_2 hfz17_3 hfz17_4 hfz17_5 hfz17_6
  try clear hcz20_0 hcz20_1 hfz20_0 hfz20_1
  try clear hcz6_0 hcz6_1 hcz6_2 hcz6_3 hcz6_4 hcz6_5 hcz6_6 hfz6_0 hfz6_1 hfz6_2 hfz6_3 hfz6_4 hfz6_5 hfz6_6
  obtain ⟨kq, x4_1, x5_1, x359000_1, x359001_1, rfl, rfl, HA, HJ1, BK357, BK358, HB⟩ := hcut
  cases kq with
  | zero => exact absurd HA.out (by simp [floats_float_general.j0])
  | succ kj1 =>
   have H := HA.out
   clear HA
   simp only [floats_float_general.j0] at H
   have HC21 := Aside0.mk H
   clear H
   have hnb22 := NB358_357.out
   have hnc22 := NB357_358.out
   obtain ⟨hcz23_0, hcz23_1, hfz23_0, hfz23_1⟩ := cz2 (W := wc) BK358
   go_upto_if 33 with (fail)
   go_cut [6] (fun v6 wc => ∃ (kq : Nat) (x6_20 : ByteArray), v6 = .string x6_20 ∧ Aside0 (floats_float_general.j1 kq x4_1 x5_1 x6_20 a0_0 a0_1 a0_2 a0_3 a0_4 a0_5 a0_6 x359000_1 x359001_1 = some r) ∧ Aside0 (kq ≤ kj1) ∧ Aside0 (wc.heap[gb357]? = some (.cells #[.int .u64 a0_0, .int .i64 a0_1, .int .u64 a0_2, .int .i64 a0_3, .int .i64 a0_4, .bool a0_5, .int .i32 a0_6] 74 (0, 0))) ∧ Aside0 (wc.heap[gb358]? = some (.cells #[.string x359000_1, .int .i64 x359001_1] 42 (0, 0))) ∧ Aside0 (Below w.heap.size w wc))
   case first =>
    have H := HC21.out
    clear HC21
    by_cases c24 : x359000_1.toList = ([] : List UInt8)
    ·replace H := hE H c24
     have c24b0 : (x359000_1.toList == ([] : List UInt8)) = true := beq_iff_eq.mpr c24
     have c24b1 : (x359000_1.toList != ([] : List UInt8)) = false := bne_eq_false_iff_eq.mpr c24
     have c24b7 : x359000_1.toList.isEmpty = true := by simpa using c24b0
     clear c24
     try first | rw [c24b0] | rw [c24b1] | rw [c24b7]
     have H' := Aside0.mk H
     clear H
     go_wp2
     go_meet
     case rel => exact ⟨_, ((⟨#[48]⟩ : ByteArray)), rz, H', ⟨by have := HJ1.out; first | omega | exact Nat.le_refl _⟩, ⟨bk⟩, ⟨bk⟩, ⟨bz⟩⟩
    ·replace H := hN H c24
     have c24b0 : (x359000_1.toList == ([] : List UInt8)) = false := beq_eq_false_iff_ne.mpr c24
     have c24b1 : (x359000_1.toList != ([] : List UInt8)) = true := bne_iff_ne.mpr c24
     have c24b7 : x359000_1.toList.isEmpty = false := by simpa using c24b0
     try first | rw [c24b0] | rw [c24b1] | rw [c24b7]
     have H' := Aside0.mk H
     clear H
     go_wp2
     go_meet
     case rel => exact ⟨_, (x359000_1), rz, H', ⟨by have := HJ1.out; first | omega | exact Nat.le_refl _⟩, ⟨bk⟩, ⟨bk⟩, ⟨bz⟩⟩
   case rest =>
    clear HC21
    try clear c7
    try clear c7b0
    try clear c24
    try clear c24b0
    try clear c24b1
    try clear hcz10_0 hcz10_1 hcz10_2 hcz10_3 hcz10_4 hcz10_5 hcz10_6 hfz10_0 hfz10_1 hfz10_2 hfz10_3 hfz10_4 hfz10_5 hfz10_6
    try clear hcz12_0 hcz12_1 hfz12_0 hfz12_1
    try clear hcz17_0 hcz17_1 hcz17_2 hcz17_3 hcz17_4 hcz17_5 hcz17_6 hfz17_0 hfz17_1 hfz17_2 hfz17_3 hfz17_4 hfz17_5 hfz17_6
    try clear hcz20_0 hcz20_1 hfz20_0 hfz20_1
    try clear hcz23_0 hcz23_1 hfz23_0 hfz23_1
    try clear hcz6_0 hcz6_1 hcz6_2 hcz6_3 hcz6_4 hcz6_5 hcz6_6 hfz6_0 hfz6_1 hfz6_2 hfz6_3 hfz6_4 hfz6_5 hfz6_6
    obtain ⟨kq, x6_20, rfl, HA, HJ20, BK357, BK358, HB⟩ := hcut
    cases kq with
    | zero => exact absurd HA.out (by simp [floats_float_general.j1])
    | succ kj20 =>
     have H := HA.out
     clear HA
     simp only [floats_float_general.j1] at H
     have HC25 := Aside0.mk H
     clear H
     have hnb26 := NB357_358.out
     have hnc26 := NB358_357.out
     obtain ⟨hcz27_0, hcz27_1, hcz27_2, hcz27_3, hcz27_4, hcz27_5, hcz27_6, hfz27_0, hfz27_1, hfz27_2, hfz27_3, hfz27_4, hfz27_5, hfz27_6⟩ := cz7 (W := wc) BK357
     go_upto_if 35 with (fail)
     go_cut [6] (fun v6 wc => ∃ (kq : Nat) (x6_24 : ByteArray), v6 = .string x6_24 ∧ Aside0 (floats_float_general.j2 kq x4_1 x6_24 a0_0 a0_1 a0_2 a0_3 a0_4 a0_5 a0_6 x359000_1 x359001_1 = some r) ∧ Aside0 (kq ≤ kj20) ∧ Aside0 (wc.heap[gb357]? = some (.cells #[.int .u64 a0_0, .int .i64 a0_1, .int .u64 a0_2, .int .i64 a0_3, .int .i64 a0_4, .bool a0_5, .int .i32 a0_6] 74 (0, 0))) ∧ Aside0 (wc.heap[gb358]? = some (.cells #[.string x359000_1, .int .i64 x359001_1] 42 (0, 0))) ∧ Aside0 (Below w.heap.size w wc))
     case first =>
      have H := HC25.out
      clear HC25
      by_cases c28 : a0_5 = true
      ·subst c28
       replace H := hT H
       replace H := bs H
       obtain ⟨t367, A29, H⟩ := H
       have H' := Aside0.mk H
       clear H
       go_wp2_with (first | ((with_reducible refine gate_callee (f := 105) rfl ?_); refine goesL_ (some 38) rfl rfl Tryz.func105 (by kernel_rfl) rfl #[.string x6_20, .int .i64 x5_1] rfl lz ?_; (with_reducible refine (floats_filled.calls x6_20 x5_1 t367 _ A29.out).mono ?_); rintro e w30 ⟨rfl, hb⟩; refine ⟨_, rfl, ?_⟩; replace BK357 := kN (g := gb357) (cs := #[.int .u64 a0_0, .int .i64 a0_1, .int .u64 a0_2, .int .i64 a0_3, .int .i64 a0_4, .bool true, .int .i32 a0_6]) hb bk; replace BK358 := kN (g := gb358) (cs := #[.string x359000_1, .int .i64 x359001_1]) hb bk; replace HB := bN bz hb; (try clear hb); (try clear hb2); (try clear hk); (try clear hi)))
       go_meet
       case rel => exact ⟨_, (t367), rz, H', ⟨by have := HJ1.out; have := HJ20.out; first | omega | exact Nat.le_refl _⟩, ⟨bk⟩, ⟨bk⟩, ⟨bz⟩⟩
      ·replace c28 := Bool.eq_false_iff.mpr c28
       subst c28
       replace H := hF H
       have H' := Aside0.mk H
       clear H
       go_wp2
       go_meet
       case rel => exact ⟨_, (x6_20), rz, H', ⟨by have := HJ1.out; have := HJ20.out; first | omega | exact Nat.le_refl _⟩, ⟨bk⟩, ⟨bk⟩, ⟨bz⟩⟩
     case rest =>
      clear HC25
      try clear c7
      try clear c7b0
      try clear c24
      try clear c24b0
      try clear c24b1
      try clear c28
      try clear hcz10_0 hcz10_1 hcz10_2 hcz10_3 hcz10_4 hcz10_5 hcz10_6 hfz10_0 hfz10_1 hfz10_2 hfz10_3 hfz10_4 hfz10_5 hfz10_6
      try clear hcz12_0 hcz12_1 hfz12_0 hfz12_1
      try clear hcz17_0 hcz17_1 hcz17_2 hcz17_3 hcz17_4 hcz17_5 hcz17_6 hfz17_0 hfz17_1 hfz17_2 hfz17_3 hfz17_4 hfz17_5 hfz17_6
      try clear hcz20_0 hcz20_1 hfz20_0 hfz20_1
      try clear hcz23_0 hcz23_1 hfz23_0 hfz23_1
      try clear hcz27_0 hcz27_1 hcz27_2 hcz27_3 hcz27_4 hcz27_5 hcz27_6 hfz27_0 hfz27_1 hfz27_2 hfz27_3 hfz27_4 hfz27_5 hfz27_6
      try clear hcz6_0 hcz6_1 hcz6_2 hcz6_3 hcz6_4 hcz6_5 hcz6_6 hfz6_0 hfz6_1 hfz6_2 hfz6_3 hfz6_4 hfz6_5 hfz6_6
      obtain ⟨kq, x6_24, rfl, HA, HJ24, BK357, BK358, HB⟩ := hcut
      cases kq with
      | zero => exact absurd HA.out (by simp [floats_float_general.j2])
      | succ kj24 =>
       have H := HA.out
       clear HA
       simp only [floats_float_general.j2] at H
       replace H := bs H
       obtain ⟨t368, A31, H⟩ := H
       have HC32 := Aside0.mk H
       clear H
       have hnb33 := NB358_357.out
       have hnc33 := NB357_358.out
       obtain ⟨hcz34_0, hcz34_1, hfz34_0, hfz34_1⟩ := cz2 (W := wc) BK358
       go_upto_region 14 with (first | ((with_reducible refine gate_callee (f := 106) rfl ?_); refine goesL_ (some 40) rfl rfl Tryz.func106 (by kernel_rfl) rfl #[.agg #[.string x359000_1, .int .i64 x359001_1]] rfl lz ?_; (with_reducible refine (floats_first.calls x359000_1 x359001_1 t368 _ A31.out).mono ?_); rintro e w35 ⟨rfl, hb⟩; refine ⟨_, rfl, ?_⟩; replace BK357 := kN (g := gb357) (cs := #[.int .u64 a0_0, .int .i64 a0_1, .int .u64 a0_2, .int .i64 a0_3, .int .i64 a0_4, .bool a0_5, .int .i32 a0_6]) hb bk; replace BK358 := kN (g := gb358) (cs := #[.string x359000_1, .int .i64 x359001_1]) hb bk; replace HB := bN bz hb; (try clear hb); (try clear hb2); (try clear hk); (try clear hi)))
       (try simp only [Act.put, List.setIfInBounds_toArray, List.set_cons_zero, List.set_cons_succ])
       go_cut [47] (fun v47 wc => ∃ (kq : Nat) (x47_31 : Bool), v47 = .bool x47_31 ∧ Aside0 (floats_float_general.j3 kq x6_24 t368 x47_31 a0_0 a0_1 a0_2 a0_3 a0_4 a0_5 a0_6 x359000_1 x359001_1 = some r) ∧ Aside0 (kq ≤ kj24) ∧ Aside0 (wc.heap[gb357]? = some (.cells #[.int .u64 a0_0, .int .i64 a0_1, .int .u64 a0_2, .int .i64 a0_3, .int .i64 a0_4, .bool a0_5, .int .i32 a0_6] 74 (0, 0))) ∧ Aside0 (wc.heap[gb358]? = some (.cells #[.string x359000_1, .int .i64 x359001_1] 42 (0, 0))) ∧ Aside0 (Below w.heap.size w wc))
       case first =>
        have H := HC32.out
        clear HC32
        by_cases c36 : t368 < (-4)
        ·replace H := hE H c36
         have c36b0 := decide_eq_true c36
         clear c36
         try rw [c36b0]
         have H' := Aside0.mk H
         clear H
         go_wp2
         go_meet
         case rel => exact ⟨_, (true), rz, H', ⟨by have := HJ1.out; have := HJ20.out; have := HJ24.out; first | omega | exact Nat.le_refl _⟩, ⟨bk⟩, ⟨bk⟩, ⟨bz⟩⟩
        ·replace H := hN H c36
         have c36b0 := decide_eq_false c36
         clear c36
         try rw [c36b0]
         have H' := Aside0.mk H
         clear H
         go_wp2
         go_meet
         case rel => exact ⟨_, (decide (t368 ≥ x4_1)), rz, H', ⟨by have := HJ1.out; have := HJ20.out; have := HJ24.out; first | omega | exact Nat.le_refl _⟩, ⟨bk⟩, ⟨bk⟩, ⟨bz⟩⟩
       case rest =>
        clear HC32
        try clear c7
        try clear c7b0
        try clear c24
        try clear c24b0
        try clear c24b1
        try clear c28
        try clear c36
        try clear c36b0
        try clear hcz10_0 hcz10_1 hcz10_2 hcz10_3 hcz10_4 hcz10_5 hcz10_6 hfz10_0 hfz10_1 hfz10_2 hfz10_3 hfz10_4 hfz10_5 hfz10_6
        try clear hcz12_0 hcz12_1 hfz12_0 hfz12_1
        try clear hcz17_0 hcz17_1 hcz17_2 hcz17_3 hcz17_4 hcz17_5 hcz17_6 hfz17_0 hfz17_1 hfz17_2 hfz17_3 hfz17_4 hfz17_5 hfz17_6
        try clear hcz20_0 hcz20_1 hfz20_0 hfz20_1
        try clear hcz23_0 hcz23_1 hfz23_0 hfz23_1
        try clear hcz27_0 hcz27_1 hcz27_2 hcz27_3 hcz27_4 hcz27_5 hcz27_6 hfz27_0 hfz27_1 hfz27_2 hfz27_3 hfz27_4 hfz27_5 hfz27_6
        try clear hcz34_0 hcz34_1 hfz34_0 hfz34_1
        try clear hcz6_0 hcz6_1 hcz6_2 hcz6_3 hcz6_4 hcz6_5 hcz6_6 hfz6_0 hfz6_1 hfz6_2 hfz6_3 hfz6_4 hfz6_5 hfz6_6
        obtain ⟨kq, x47_31, rfl, HA, HJ31, BK357, BK358, HB⟩ := hcut
        cases kq with
        | zero => exact absurd HA.out (by simp [floats_float_general.j3])
        | succ kj31 =>
         have H := HA.out
         clear HA
         simp only [floats_float_general.j3] at H
         by_cases c37 : x47_31 = true
         ·subst c37
          replace H := hT H
          replace H := bs H
          obtain ⟨t369, A38, H⟩ := H
          obtain rfl := Option.some.inj H
          have hnb39 := NB357_358.out
          have hnc39 := NB358_357.out
          obtain ⟨hcz40_0, hcz40_1, hcz40_2, hcz40_3, hcz40_4, hcz40_5, hcz40_6, hfz40_0, hfz40_1, hfz40_2, hfz40_3, hfz40_4, hfz40_5, hfz40_6⟩ := cz7 (W := wc) BK357
          go_wp2_with (first | ((with_reducible refine gate_callee (f := 104) rfl ?_); refine goesL_ (some 51) rfl rfl Tryz.func104 (by kernel_rfl) rfl #[.agg #[.int .u64 a0_0, .int .i64 a0_1, .int .u64 a0_2, .int .i64 a0_3, .int .i64 a0_4, .bool a0_5, .int .i32 a0_6], .string x6_24, .int .i64 t368] rfl lz ?_; (with_reducible refine (floats_float_scientific.calls kj31 a0_0 a0_1 a0_2 a0_3 a0_4 a0_5 a0_6 x6_24 t368 t369 _ A38.out).mono ?_); rintro e w41 ⟨rfl, hb⟩; refine ⟨_, rfl, ?_⟩; replace BK357 := kN (g := gb357) (cs := #[.int .u64 a0_0, .int .i64 a0_1, .int .u64 a0_2, .int .i64 a0_3, .int .i64 a0_4, .bool a0_5, .int .i32 a0_6]) hb bk; replace BK358 := kN (g := gb358) (cs := #[.string x359000_1, .int .i64 x359001_1]) hb bk; replace HB := bN bz hb; (try clear hb); (try clear hb2); (try clear hk); (try clear hi)))
          go_ret
          exact ⟨ez, bz⟩
         ·replace c37 := Bool.eq_false_iff.mpr c37
          subst c37
          replace H := hF H
          replace H := bs H
          obtain ⟨t370, A42, H⟩ := H
          replace H := bs H
          obtain ⟨t371, A43, H⟩ := H
          obtain rfl := Option.some.inj H
          try go_wp2
          replace BK357 := Aside0.mk (blk_drew BK357.out)
          replace BK358 := Aside0.mk (blk_drew BK358.out)
          replace HB := Aside0.mk (below_drew1 HB.out)
          refine start_ (n := 7) (S := fun w' => w'.cell? ⟨gb357, 0, none⟩ = some (.int .u64 a0_0) ∧ w'.cell? ⟨gb357, 1, none⟩ = some (.int .i64 a0_1) ∧ w'.cell? ⟨gb357, 2, none⟩ = some (.int .u64 a0_2) ∧ w'.cell? ⟨gb357, 3, none⟩ = some (.int .i64 a0_3) ∧ w'.cell? ⟨gb357, 4, none⟩ = some (.int .i64 a0_4) ∧ w'.cell? ⟨gb357, 5, none⟩ = some (.bool a0_5) ∧ w'.cell? ⟨gb357, 6, none⟩ = some (.int .i32 a0_6) ∧ w'.cell? ⟨gb358, 0, none⟩ = some (.string x359000_1) ∧ w'.cell? ⟨gb358, 1, none⟩ = some (.int .i64 x359001_1)) (ds := []) #[false, false, false, false, false, false, false] (by kernel_rfl) rfl rfl ⟨(blk_cell BK357.out 0).trans rfl, (blk_cell BK357.out 1).trans rfl, (blk_cell BK357.out 2).trans rfl, (blk_cell BK357.out 3).trans rfl, (blk_cell BK357.out 4).trans rfl, (blk_cell BK357.out 5).trans rfl, (blk_cell BK357.out 6).trans rfl, (blk_cell BK358.out 0).trans rfl, (blk_cell BK358.out 1).trans rfl⟩ (fun hHeld => ?_)
          generalize wc.drew = w44 at BK357 BK358 HB hHeld ⊢
          refine pure_ (i := 1) (N := some 53) (v := ?_) (a' := ?_) #[false, true, false, false, false, false, false] rfl rfl (by kernel_rfl) (fun _ _ _ h => h) (Or.inl ⟨by rfl, ?_⟩) ?_ ?_
          rotate_left
          ·intro w'
           go_simp
           with_reducible rfl
          rotate_left
          ·simp only [Act.put, List.setIfInBounds_toArray, List.set_cons_zero, List.set_cons_succ, i64_w, i32_w]
           rfl
          refine take_ (i := 0) (N := some 52) (v := ?_) (a' := ?_) #[true, true, false, false, false, false, false] rfl rfl (by kernel_rfl) (fun _ _ _ h => h) (Or.inl ⟨by rfl, ?_⟩) hHeld ?_ ?_
          rotate_left
          ·rintro w' ⟨s0, s1, s2, s3, s4, s5, s6, s7, s8⟩
           go_simp
           with_reducible rfl
          rotate_left
          ·simp only [Act.put, List.setIfInBounds_toArray, List.set_cons_zero, List.set_cons_succ, i64_w, i32_w]
           rfl
          refine take_ (i := 2) (N := some 54) (v := ?_) (a' := ?_) #[true, true, true, false, false, false, false] rfl rfl (by kernel_rfl) (fun _ _ _ h => h) (Or.inl ⟨by rfl, ?_⟩) hHeld ?_ ?_
          rotate_left
          ·rintro w' ⟨s0, s1, s2, s3, s4, s5, s6, s7, s8⟩
           go_simp
           with_reducible rfl
          rotate_left
          ·simp only [Act.put, List.setIfInBounds_toArray, List.set_cons_zero, List.set_cons_succ, i64_w, i32_w]
           rfl
          refine one_ (i := 3) (N := some 55) #[true, true, true, true, false, false, false] rfl rfl (by kernel_rfl) (by decide) (fun K hK => ?_)
          refine goes_ Tryz.func106 (by kernel_rfl) rfl #[.agg #[.string x359000_1, .int .i64 x359001_1]] (by rfl) rfl rfl lz ?_
          with_reducible refine (floats_first.calls x359000_1 x359001_1 t370 _ A42.out).mono ?_
          rintro e w45 ⟨rfl, hb⟩
          refine ⟨_, rfl, ?_⟩
          replace BK357 := Aside0.mk (blk_below (g := gb357) (o := .cells #[.int .u64 a0_0, .int .i64 a0_1, .int .u64 a0_2, .int .i64 a0_3, .int .i64 a0_4, .bool a0_5, .int .i32 a0_6] 74 (0, 0)) bk hb)
          replace BK358 := Aside0.mk (blk_below (g := gb358) (o := .cells #[.string x359000_1, .int .i64 x359001_1] 42 (0, 0)) bk hb)
          replace HB := Aside0.mk (below_step bz hb)
          (try clear hb)
          (try clear hb2)
          (try clear hk)
          (try clear hi)
          refine hK.out _ _ ⟨(blk_cell BK357.out 0).trans rfl, (blk_cell BK357.out 1).trans rfl, (blk_cell BK357.out 2).trans rfl, (blk_cell BK357.out 3).trans rfl, (blk_cell BK357.out 4).trans rfl, (blk_cell BK357.out 5).trans rfl, (blk_cell BK357.out 6).trans rfl, (blk_cell BK358.out 0).trans rfl, (blk_cell BK358.out 1).trans rfl⟩ (fun hHeld => ?_)
          clear hK K
          refine norm_ (a' := ?_) ?_ ?_
          rotate_left
          ·show Act.put _ (some 55) _ = _
           simp only [Act.put, List.setIfInBounds_toArray, List.set_cons_zero, List.set_cons_succ, i64_w, i32_w]
           rfl
          refine pure_ (i := 4) (N := some 56) (v := ?_) (a' := ?_) #[true, true, true, true, true, false, false] rfl rfl (by kernel_rfl) (fun _ _ _ h => h) (Or.inl ⟨by rfl, ?_⟩) ?_ ?_
          rotate_left
          ·intro w'
           go_simp
           with_reducible rfl
          rotate_left
          ·simp only [Act.put, List.setIfInBounds_toArray, List.set_cons_zero, List.set_cons_succ, i64_w, i32_w]
           rfl
          refine one_ (i := 5) (N := some 57) #[true, true, true, true, true, true, false] rfl rfl (by kernel_rfl) (by decide) (fun K hK => ?_)
          refine goes_ Tryz.func108 (by kernel_rfl) rfl #[.agg #[.int .u64 a0_0, .int .i64 a0_1, .int .u64 a0_2, .int .i64 a0_3, .int .i64 a0_4, .bool a0_5, .int .i32 a0_6], .string x6_24, .int .i64 (wrap64 (t370 + 1))] (by rfl) rfl rfl lz ?_
          with_reducible refine (floats_float_around.calls a0_0 a0_1 a0_2 a0_3 a0_4 a0_5 a0_6 x6_24 (wrap64 (t370 + 1)) t371 _ A43.out).mono ?_
          rintro e w46 ⟨rfl, hb⟩
          refine ⟨_, rfl, ?_⟩
          replace BK357 := Aside0.mk (blk_below (g := gb357) (o := .cells #[.int .u64 a0_0, .int .i64 a0_1, .int .u64 a0_2, .int .i64 a0_3, .int .i64 a0_4, .bool a0_5, .int .i32 a0_6] 74 (0, 0)) bk hb)
          replace BK358 := Aside0.mk (blk_below (g := gb358) (o := .cells #[.string x359000_1, .int .i64 x359001_1] 42 (0, 0)) bk hb)
          replace HB := Aside0.mk (below_step bz hb)
          (try clear hb)
          (try clear hb2)
          (try clear hk)
          (try clear hi)
          refine hK.out _ _ ⟨(blk_cell BK357.out 0).trans rfl, (blk_cell BK357.out 1).trans rfl, (blk_cell BK357.out 2).trans rfl, (blk_cell BK357.out 3).trans rfl, (blk_cell BK357.out 4).trans rfl, (blk_cell BK357.out 5).trans rfl, (blk_cell BK357.out 6).trans rfl, (blk_cell BK358.out 0).trans rfl, (blk_cell BK358.out 1).trans rfl⟩ (fun hHeld => ?_)
          clear hK K
          refine norm_ (a' := ?_) ?_ ?_
          rotate_left
          ·show Act.put _ (some 57) _ = _
           simp only [Act.put, List.setIfInBounds_toArray, List.set_cons_zero, List.set_cons_succ, i64_w, i32_w]
           rfl
          refine pure_ (i := 6) (N := some 2) (v := ?_) (a' := ?_) #[true, true, true, true, true, true, true] rfl rfl (by kernel_rfl) (fun _ _ _ h => h) (Or.inl ⟨by rfl, ?_⟩) ?_ ?_
          rotate_left
          ·intro w'
           go_simp
           with_reducible rfl
          rotate_left
          ·simp only [Act.put, List.setIfInBounds_toArray, List.set_cons_zero, List.set_cons_succ, i64_w, i32_w]
           rfl
          refine done_ (by kernel_rfl) ?_
          try go_wp2
          go_ret
          exact ⟨ez, bz⟩
end Go.Proofs.YtecpgdfnamkfdaaGreatDoor.Fn
end
section
namespace Go.Proofs.YtecpgdfnamkfdaaGreatDoor.Pure
open Go.RowKit Go.Proofs.YtecpgdfnamkfdaaGreatDoorW.PrintWords Go.Proofs.YtecpgdfnamkfdaaGreatDoorW.PrintLast Go.Proofs.YtecpgdfnamkfdaaGreatDoorW.PrintMore Go.Proofs.YtecpgdfnamkfdaaGreatDoor.Fn
set_option linter.unusedVariables false
set_option linter.unusedSimpArgs false
structure Near (v : List UInt8 × Int) : Prop where
  form : InForm v.1 v.2
  len : v.1.length ≤ 1300
  lo : -2600 ≤ v.2
  hi : v.2 ≤ 1400
theorem Near.five {v : List UInt8 × Int} (h : Near v) : v.1.length ≤ 2000 ∧ -5000 ≤ v.2 ∧ v.2 ≤ 5000 := by
  have := h.len
  have := h.lo
  have := h.hi
  omega
theorem exD_near {m : Nat} (hm : m < 18446744073709551616) {e : Int} (h : -1200 ≤ e ∧ e ≤ 1200) : Near (exD m e) := by
  have h1 := exD_small hm h
  exact ⟨exD_form m e, h1.1, by omega, by omega⟩
theorem valueF_ev (b s : Int) {m : Nat} (hm : m < 18446744073709551616) {e : Int} (h : -1200 ≤ e ∧ e ≤ 1200) (prec v : Int) (dot : Bool) :
    Ev (fun k => floats_float_value.f k b s (m : Int) e prec dot v) (S (exD m e).1, (exD m e).2) := by
  have hx := exact_eq m e hm
  rw [exactS_exD m h] at hx
  unfold floats_float_value.f
  exact Ev.bind hx (Ev.now _)
theorem round_near {v : List UInt8 × Int} (h : Near v) (n : Int) : Ev (fun k => bigdec_Round.f k (S v.1) v.2 n) (S (roundN v.1 v.2 n).1, (roundN v.1 v.2 n).2, 0) := by
  have hr := roundS_eq (S v.1) v.2 n
  have h5 := h.five
  unfold roundS at hr
  rw [normS_ok h.form h5.1 h5.2, if_pos rfl] at hr
  simp only [L_S] at hr
  exact hr
theorem places_near {v : List UInt8 × Int} (h : Near v) {n : Int} (hn : -20000 ≤ n ∧ n ≤ 20000) : Ev (fun k => bigdec_Places.f k (S v.1) v.2 n) (S (roundN v.1 v.2 (v.2 + n)).1, (roundN v.1 v.2 (v.2 + n)).2, 0) := by
  have hr := placesS_eq (S v.1) v.2 n
  have h5 := h.five
  unfold roundS at hr
  rw [normS_ok h.form h5.1 h5.2, if_pos rfl, show max (-20000) (min n 20000) = n by omega] at hr
  simp only [L_S] at hr
  exact hr
theorem round_form {v : List UInt8 × Int} (h : InForm v.1 v.2) (n : Int) : InForm (roundN v.1 v.2 n).1 (roundN v.1 v.2 n).2 := by
  unfold roundN
  split
  · exact ⟨AllD.nil, fun c t e => (by cases e), rfl, fun _ => rfl⟩
  · split
    · exact h
    · split <;> exact inForm_decOf _ _
theorem round_bound {v : List UInt8 × Int} (h : Near v) (n : Int) : (roundN v.1 v.2 n).1.length ≤ 1300 ∧ -4000 ≤ (roundN v.1 v.2 n).2 ∧ (roundN v.1 v.2 n).2 ≤ 1500 := by
  have h1 := h.len
  have h2 := h.lo
  have h3 := h.hi
  unfold roundN
  by_cases c1 : n < 0
  · rw [if_pos c1]; exact ⟨Nat.zero_le _, by decide, by decide⟩
  · rw [if_neg c1]
    by_cases c2 : (v.1.length : Int) ≤ n
    · rw [if_pos c2]; exact ⟨h1, by omega, by omega⟩
    · rw [if_neg c2]
      have hn : n.toNat < v.1.length := by omega
      have hv := val_lt (h.form.1.take n.toNat)
      rw [List.length_take, Nat.min_eq_left (Nat.le_of_lt hn)] at hv
      have hp : 10 ^ n.toNat ≤ 10 ^ (n.toNat + 1) := Nat.pow_le_pow_right (by decide) (Nat.le_succ _)
      have b1 := decOf_bound (n := val (v.1.take n.toNat)) (m := n.toNat + 1) (by omega) (v.2 - n)
      have hp1 : 10 ^ n.toNat + 1 ≤ 10 ^ (n.toNat + 1) := by
        rw [Nat.pow_succ]
        have : 1 ≤ 10 ^ n.toNat := Nat.pow_pos (by decide)
        omega
      have b2 := decOf_bound (n := val (v.1.take n.toNat) + 1) (m := n.toNat + 1) (by omega) (v.2 - n)
      split
      · exact ⟨by omega, by omega, by omega⟩
      · exact ⟨by omega, by omega, by omega⟩
theorem fill_ne {l : List UInt8} {n : Int} (h : 1 ≤ n) : fillL l n ≠ [] := by
  intro e
  have := fillL_len l n
  rw [e] at this
  simp at this
  omega
theorem firstL_bound {d : List UInt8 × Int} (h : -4000 ≤ d.2 ∧ d.2 ≤ 1500) : -4001 ≤ firstL d ∧ firstL d ≤ 1500 := by
  unfold firstL
  split <;> omega
def six (prec : Int) : Int := if prec < 0 then 6 else prec
theorem scaled_ev (b s : Int) {m : Nat} (hm : m < 18446744073709551616) {e : Int} (h : -1200 ≤ e ∧ e ≤ 1200) {prec : Int} (hp : -1 ≤ prec ∧ prec ≤ 1000) (v : Int) (dot : Bool) :
    Ev (fun k => floats_float_scaled.f k b s (m : Int) e prec dot v) (S (scaledL dot (bigV v) (exD m e) (six prec))) := by
  have hx := exD_near hm h
  have key : ∀ p : Int, 0 ≤ p → p ≤ 1000 → Ev (fun k => floats_float_scaled.j0 k p b s (m : Int) e prec dot v) (S (scaledL dot (bigV v) (exD m e) p)) := by
    intro p p0 p1
    have hb := round_bound hx (p + 1)
    have hfl := fillL_len (roundN (exD m e).1 (exD m e).2 (p + 1)).1 (p + 1)
    have hfb := firstL_bound (d := roundN (exD m e).1 (exD m e).2 (p + 1)) hb.2
    refine Ev.step (fun k => by simp only [floats_float_scaled.j0]; rfl) ?_
    refine Ev.bind (valueF_ev b s hm h prec v dot) ?_
    rw [w64 (x := p + 1) (by omega) (by omega)]
    refine Ev.bind (round_near hx (p + 1)) ?_
    unfold scaledL
    generalize roundN (exD m e).1 (exD m e).2 (p + 1) = d at *
    obtain ⟨l, q⟩ := d
    dsimp only at hb hfl hfb ⊢
    rw [filled_eq (by omega) (by omega)]
    simp only [Option.bind_some]
    rw [first_eq _ (by omega)]
    simp only [Option.bind_some]
    exact Ev.bind (sci_eq b s (m : Int) e prec v dot (fill_ne (by omega)) (by omega) (by omega)) (Ev.now _)
  unfold floats_float_scaled.f six
  by_cases c : prec < 0
  · rw [if_pos c]
    exact Ev.congr (fun k => if_pos c) (key 6 (by decide) (by decide))
  · rw [if_neg c]
    exact Ev.congr (fun k => if_neg c) (key prec (by omega) hp.2)
theorem fixed_ev (b s : Int) {m : Nat} (hm : m < 18446744073709551616) {e : Int} (h : -1200 ≤ e ∧ e ≤ 1200) {prec : Int} (hp : -1 ≤ prec ∧ prec ≤ 1000) (v : Int) (dot : Bool) :
    Ev (fun k => floats_float_fixed.f k b s (m : Int) e prec dot v) (S (fixedL dot (exD m e) (six prec))) := by
  have hx := exD_near hm h
  have key : ∀ p : Int, 0 ≤ p → p ≤ 1000 → Ev (fun k => floats_float_fixed.j0 k p b s (m : Int) e prec dot v) (S (fixedL dot (exD m e) p)) := by
    intro p p0 p1
    have hb := round_bound hx ((exD m e).2 + p)
    refine Ev.step (fun k => by simp only [floats_float_fixed.j0]; rfl) ?_
    refine Ev.bind (valueF_ev b s hm h prec v dot) ?_
    refine Ev.bind (places_near hx (by omega)) ?_
    unfold fixedL
    generalize roundN (exD m e).1 (exD m e).2 ((exD m e).2 + p) = d at *
    obtain ⟨l, q⟩ := d
    dsimp only at hb ⊢
    by_cases c1 : l = []
    · refine Ev.congr (fun k => if_pos ((empty_iff l).2 c1)) ?_
      rw [if_pos c1, repeat0 (by omega) (by omega)]
      simp only [Option.bind_some]
      rw [show (⟨#[48]⟩ : ByteArray) = S [48] from rfl, pointed_eq _ _ _ _ _ _ _ (by rw [zsL_len]; simp; omega)]
      exact Ev.now _
    · refine Ev.congr (fun k => if_neg (fun e => c1 ((empty_iff l).1 e))) ?_
      rw [if_neg c1]
      by_cases c2 : q ≤ 0
      · refine Ev.congr (fun k => if_pos c2) ?_
        rw [if_pos c2, w64 (x := -q) (by omega) (by omega), repeat0 (by omega) (by omega)]
        simp only [Option.bind_some]
        refine Ev.congr (fun k => if_pos (by rw [size_S, size_S, zsL_len]; omega)) ?_
        have hfl := fillL_len (zsL (-q).toNat ++ l) p
        rw [List.length_append, zsL_len] at hfl
        rw [S_app2, filled_eq (by rw [List.length_append, zsL_len]; omega) (by omega)]
        simp only [Option.bind_some]
        rw [show (⟨#[48]⟩ : ByteArray) = S [48] from rfl, pointed_eq _ _ _ _ _ _ _ (by simp; omega)]
        exact Ev.now _
      · refine Ev.congr (fun k => if_neg c2) ?_
        have hfl := fillL_len l (q + p)
        rw [if_neg c2, w64 (x := q + p) (by omega) (by omega), filled_eq (by omega) (by omega)]
        simp only [Option.bind_some]
        rw [around_eq _ _ _ _ _ _ _ (by omega) (by omega)]
        exact Ev.now _
  unfold floats_float_fixed.f six
  by_cases c : prec < 0
  · rw [if_pos c]
    exact Ev.congr (fun k => if_pos c) (key 6 (by decide) (by decide))
  · rw [if_neg c]
    exact Ev.congr (fun k => if_neg c) (key prec (by omega) hp.2)
theorem gen_core (b s m e prec v : Int) (dot : Bool) {d : List UInt8 × Int} (hd : d.1.length ≤ 2000 ∧ -4000 ≤ d.2 ∧ d.2 ≤ 1500) {keep top : Int} (hk : 1 ≤ keep ∧ keep ≤ 1000) :
    Ev (fun k => floats_float_general.j0 k top keep b s m e prec dot v (S d.1) d.2) (S (genL dot (bigV v) d keep top)) := by
  obtain ⟨l, q⟩ := d
  dsimp only at hd ⊢
  have hfb := firstL_bound (d := (l, q)) hd.2
  have h3 : ∀ (x : List UInt8), x ≠ [] → x.length ≤ 5000 → Ev (fun k => floats_float_general.j2 k top (S x) b s m e prec dot v (S l) q) (S (if firstL (l, q) < -4 ∨ firstL (l, q) ≥ top then sciL dot (bigV v) x (firstL (l, q)) else aroundL dot x (firstL (l, q) + 1))) := by
    intro x hx hxl
    refine Ev.step (fun k => by simp only [floats_float_general.j2]; rfl) ?_
    rw [first_eq l (by omega)]
    simp only [Option.bind_some]
    obtain ⟨z, hzz⟩ : ∃ z, firstL (l, q) = z := ⟨_, rfl⟩
    rw [hzz] at hfb ⊢
    have hs : Ev (fun k => floats_float_general.j3 k (S x) z true b s m e prec dot v (S l) q) (S (sciL dot (bigV v) x z)) := by
      refine Ev.step (fun k => by simp only [floats_float_general.j3]; rfl) ?_
      refine Ev.congr (fun k => if_pos trivial) ?_
      exact Ev.bind (sci_eq b s m e prec v dot hx (by omega) (by omega)) (Ev.now _)
    by_cases c1 : z < -4
    · rw [if_pos (.inl c1)]
      exact Ev.congr (fun k => if_pos c1) hs
    · refine Ev.congr (fun k => if_neg c1) ?_
      by_cases c2 : z ≥ top
      · rw [if_pos (.inr c2), decide_eq_true c2]
        exact hs
      · rw [if_neg (by omega), decide_eq_false c2]
        refine Ev.step (fun k => by simp only [floats_float_general.j3]; rfl) ?_
        refine Ev.congr (fun k => if_neg (by simp)) ?_
        rw [first_eq l (by omega)]
        simp only [Option.bind_some]
        have hz : -100000 ≤ firstL (l, q) + 1 ∧ firstL (l, q) + 1 ≤ 100000 := by have := firstL_bound (d := (l, q)) hd.2; omega
        rw [w64 (x := firstL (l, q) + 1) (by omega) (by omega), around_eq b s m e prec v dot (by omega) hz, hzz]
        exact Ev.now _
  have h2 : ∀ (x : List UInt8), x ≠ [] → x.length ≤ 2000 → Ev (fun k => floats_float_general.j1 k top keep (S x) b s m e prec dot v (S l) q) (S (if firstL (l, q) < -4 ∨ firstL (l, q) ≥ top then sciL dot (bigV v) (if dot then fillL x keep else x) (firstL (l, q)) else aroundL dot (if dot then fillL x keep else x) (firstL (l, q) + 1))) := by
    intro x hx hxl
    refine Ev.step (fun k => by simp only [floats_float_general.j1]; rfl) ?_
    cases dot with
    | true =>
      refine Ev.congr (fun k => if_pos rfl) ?_
      have hfl := fillL_len x keep
      rw [filled_eq (by omega) (by omega)]
      simp only [Option.bind_some]
      exact h3 _ (fill_ne hk.1) (by omega)
    | false =>
      refine Ev.congr (fun k => if_neg (by simp)) ?_
      exact h3 x hx (by omega)
  refine Ev.step (fun k => by simp only [floats_float_general.j0]; rfl) ?_
  unfold genL
  dsimp only
  by_cases c : l = []
  · refine Ev.congr (fun k => if_pos ((empty_iff l).2 c)) ?_
    rw [if_pos c]
    exact h2 [48] (by simp) (by simp)
  · refine Ev.congr (fun k => if_neg (fun e => c ((empty_iff l).1 e))) ?_
    rw [if_neg c]
    exact h2 l c hd.1
def shortL (wide : Bool) (p : Nat) : List UInt8 × Int := if p = 0 then ([], 0) else shortD wide p
def genOf (wide : Bool) (p : Nat) (m : Nat) (e prec : Int) (dot big : Bool) : List UInt8 :=
  if prec < 0 then genL dot big (shortL wide p) 6 21 else genL dot big (roundN (exD m e).1 (exD m e).2 (max prec 1)) (max prec 1) (max prec 1)
theorem gen_ev (wide : Bool) {a p : Nat} (ha : a < 18446744073709551616) (hb : bareN wide a = p) (hp : p < ii wide) (hs : (shortL wide p).1.length ≤ 2000 ∧ -4000 ≤ (shortL wide p).2 ∧ (shortL wide p).2 ≤ 1500) {m : Nat} (hm : m < 18446744073709551616) {e : Int} (h : -1200 ≤ e ∧ e ≤ 1200) {prec : Int} (hq : -1 ≤ prec ∧ prec ≤ 1000) (v : Int) (dot : Bool) :
    Ev (fun k => floats_float_general.f k (a : Int) (szB wide) (m : Int) e prec dot v) (S (genOf wide p m e prec dot (bigV v))) := by
  unfold floats_float_general.f genOf
  by_cases c : prec < 0
  · rw [if_pos c]
    refine Ev.congr (fun k => if_pos c) ?_
    have hx := shortest_eq wide a ha
    have e1 : shortS wide a = (S (shortL wide p).1, (shortL wide p).2, 0) := by
      unfold shortS shortL
      rw [hb, if_neg (by omega)]
      split <;> rfl
    rw [e1] at hx
    refine Ev.bind hx ?_
    exact gen_core _ _ _ _ _ v dot hs (by decide)
  · rw [if_neg c]
    refine Ev.congr (fun k => if_neg c) ?_
    have hn := exD_near hm h
    have hbd := round_bound hn (max prec 1)
    refine Ev.bind (valueF_ev _ _ hm h prec v dot) ?_
    rw [mx_eq]
    refine Ev.bind (round_near hn (max prec 1)) ?_
    exact gen_core _ _ _ _ _ v dot (by omega) (by omega)
end Go.Proofs.YtecpgdfnamkfdaaGreatDoor.Pure
end
section
namespace Go.Proofs.YtecpgdfnamkfdaaGreatDoor.Pure
open Go.RowKit Go.Proofs.YtecpgdfnamkfdaaGreatDoorW.PrintWords Go.Proofs.YtecpgdfnamkfdaaGreatDoorW.PrintLast Go.Proofs.YtecpgdfnamkfdaaGreatDoorW.PrintMore Go.Proofs.YtecpgdfnamkfdaaGreatDoor.Fn
set_option linter.unusedVariables false
set_option linter.unusedSimpArgs false
theorem shl_eq (x j : Nat) (hj : j ≤ 64) : shl .u64 (x : Int) (j : Int) = ((x * 2 ^ j % 18446744073709551616 : Nat) : Int) := by
  unfold shl
  rw [Int.toNat_natCast, show min j (IntKind.u64.bits) = j from Nat.min_eq_left (by simpa [IntKind.bits] using hj), IntKind.wrap_u64]
  rw [show ((2 : Int) ^ j) = ((2 ^ j : Nat) : Int) by simp]
  generalize 2 ^ j = P
  rw [← Int.natCast_mul]
  generalize x * P = y
  omega
def hexEnd (dot up : Bool) (lead ds : List UInt8) (x : Int) : List UInt8 :=
  if up then Lib.toUpperA ([48, 120] ++ (ptL dot lead ds ++ powL [112] x 2)) else [48, 120] ++ (ptL dot lead ds ++ powL [112] x 2)
theorem hexEnd_ev (b s m e prec v : Int) (dot : Bool) {lead ds : List UInt8} {x : Int} (hl : lead.length ≤ 10 ∧ Asc lead) (hd : ds.length ≤ 2000 ∧ Asc ds) (hx : -100000 ≤ x ∧ x ≤ 100000) :
    Ev (fun k => floats_float_hex.j4 k (S lead) x (S ds) b s m e prec dot v) (S (hexEnd dot (v == 88) lead ds x)) := by
  have h1 := ptL_len dot lead ds
  have h2 := powL_len ([112] : List UInt8) (e := x) (least := 2) (by decide)
  have ha : Asc ([48, 120] ++ (ptL dot lead ds ++ powL [112] x 2)) := Asc.app (by decide) ((ptL_asc hl.2 hd.2 dot).app (powL_asc (by decide) x 2))
  refine Ev.step (fun k => by simp only [floats_float_hex.j4]; rfl) ?_
  rw [pointed_eq b s m e prec v dot (by omega)]
  simp only [Option.bind_some]
  rw [show (⟨#[112]⟩ : ByteArray) = S [112] from rfl, power_eq (by decide) hx (by decide)]
  simp only [Option.bind_some]
  rw [show (⟨#[48, 120]⟩ : ByteArray) = S [48, 120] from rfl, joined3 (by simp at h2 ⊢; omega)]
  simp only [Option.bind_some]
  unfold hexEnd
  by_cases c : v = 88
  · refine Ev.congr (fun k => if_pos c) ?_
    rw [show (v == 88) = true from beq_iff_eq.mpr c, if_pos rfl]
    have hu : strings_ToUpper.f (S ([48, 120] ++ (ptL dot lead ds ++ powL [112] x 2))) = some (S (Lib.toUpperA ([48, 120] ++ (ptL dot lead ds ++ powL [112] x 2)))) := by
      unfold strings_ToUpper.f
      rw [if_pos ⟨by rw [size_S]; simp at h2 ⊢; omega, List.all_eq_true.2 (fun c hc => decide_eq_true (ha c hc))⟩]
      rfl
    rw [hu]
    exact Ev.now _
  · refine Ev.congr (fun k => if_neg c) ?_
    rw [show (v == 88) = false from beq_eq_false_iff_ne.mpr c, if_neg (by simp)]
    exact Ev.now _
def hexUp (lead : List UInt8) (part p : Nat) : Prop :=
  9223372036854775808 < part * 2 ^ (4 * p) % 18446744073709551616 ∨ (part * 2 ^ (4 * p) % 18446744073709551616 = 9223372036854775808 ∧ (part / 2 ^ (64 - 4 * p) % 2 = 1 ∨ (p = 0 ∧ lead = [49])))
instance (lead : List UInt8) (part p : Nat) : Decidable (hexUp lead part p) := by unfold hexUp; infer_instance
def hexKept (lead : List UInt8) (part p : Nat) : Nat := if hexUp lead part p then part / 2 ^ (64 - 4 * p) + 1 else part / 2 ^ (64 - 4 * p)
def hexMid (dot up : Bool) (lead : List UInt8) (part p : Nat) (x : Int) : List UInt8 :=
  let over := 0 < hexKept lead part p / 2 ^ (4 * p)
  hexEnd dot up lead (if p = 0 then [] else (sixL (if over then 0 else hexKept lead part p * 2 ^ (64 - 4 * p) % 18446744073709551616)).take p) (if over then x + 1 else x)
def hexTail (dot up : Bool) (lead : List UInt8) (part : Nat) (x prec : Int) : List UInt8 :=
  if prec < 0 then hexEnd dot up lead (rz (sixL part)) x else if prec ≥ 16 then hexEnd dot up lead (fillL (sixL part) prec) x else hexMid dot up lead part prec.toNat x
def hexL (m : Nat) (e prec : Int) (dot up : Bool) : List UInt8 :=
  if m = 0 then hexTail dot up [48] 0 0 prec else hexTail dot up [49] (m * 2 ^ (64 - Lib.bitLen m) % 18446744073709551616 * 2 % 18446744073709551616) (e + Lib.bitLen m - 1) prec
theorem six_asc (n : Nat) : Asc (sixL n) := (zsL_asc _).app (bT_asc (by decide) n)
theorem rz_asc {l : List UInt8} (h : Asc l) : Asc (rz l) := by
  obtain ⟨k, hk⟩ := rz_prefix l
  intro c hc
  exact h c (by rw [hk]; exact List.mem_append_left _ hc)
theorem rz_len (l : List UInt8) : (rz l).length ≤ l.length := length_rz l
theorem hexTail_ev (b s m e v : Int) (dot : Bool) {lead : List UInt8} (hl : lead = [48] ∨ lead = [49]) {part : Nat} (hp : part ≤ 18446744073709551615) {x : Int} (hx : -90000 ≤ x ∧ x ≤ 90000) {prec : Int} (hq : -1 ≤ prec ∧ prec ≤ 1000) :
    Ev (fun k => floats_float_hex.j0 k (S lead) (part : Int) x b s m e prec dot v) (S (hexTail dot (v == 88) lead part x prec)) := by
  have hl1 : lead.length ≤ 10 ∧ Asc lead := by rcases hl with rfl | rfl <;> exact ⟨by decide, by decide⟩
  have hsl := sixL_len hp
  refine Ev.step (fun k => by simp only [floats_float_hex.j0]; rfl) ?_
  unfold hexTail
  by_cases c1 : prec < 0
  · refine Ev.congr (fun k => if_pos c1) ?_
    rw [if_pos c1, six_eq hp]
    simp only [Option.bind_some]
    have hr := rz_len (sixL part)
    rw [trimR _ (by rw [size_S]; omega), L_S]
    simp only [Option.bind_some]
    exact hexEnd_ev b s m e prec v dot hl1 ⟨by omega, rz_asc (six_asc _)⟩ (by omega)
  · refine Ev.congr (fun k => if_neg c1) ?_
    rw [if_neg c1]
    by_cases c2 : prec ≥ 16
    · refine Ev.congr (fun k => if_pos c2) ?_
      have hfl := fillL_len (sixL part) prec
      rw [if_pos c2, six_eq hp]
      simp only [Option.bind_some]
      rw [filled_eq (by omega) (by omega)]
      simp only [Option.bind_some]
      exact hexEnd_ev b s m e prec v dot hl1 ⟨by omega, fillL_asc (six_asc _) _⟩ (by omega)
    · refine Ev.congr (fun k => if_neg c2) ?_
      rw [if_neg c2]
      obtain ⟨p, rfl⟩ : ∃ p : Nat, prec = p := ⟨prec.toNat, by omega⟩
      rw [Int.toNat_natCast]
      have hp16 : p < 16 := by omega
      have w1 : IntKind.u64.wrap (wrap64 (64 - wrap64 (4 * (p : Int)))) = ((64 - 4 * p : Nat) : Int) := by
        rw [w64 (x := 4 * (p : Int)) (by omega) (by omega), w64 (by omega) (by omega), show (64 - 4 * (p : Int)) = ((64 - 4 * p : Nat) : Int) by omega]
        exact u64c _ (by omega)
      have w2 : IntKind.u64.wrap (64 - ((64 - 4 * p : Nat) : Int)) = ((4 * p : Nat) : Int) := by
        rw [show (64 - ((64 - 4 * p : Nat) : Int)) = ((4 * p : Nat) : Int) by omega]
        exact u64c _ (by omega)
      rw [w1, w2]
      refine Ev.congr (fun k => if_pos (by omega)) ?_
      have hlow : ∀ low : Int, low = ((part * 2 ^ (4 * p) % 18446744073709551616 : Nat) : Int) → Ev (fun k => floats_float_hex.j1 k (S lead) (part : Int) x (⟨#[]⟩ : ByteArray) ((64 - 4 * p : Nat) : Int) low b s m e (p : Int) dot v) (S (hexMid dot (v == 88) lead part p x)) := by
        intro low hlo
        have hkb : part / 2 ^ (64 - 4 * p) ≤ 18446744073709551615 := Nat.le_trans (Nat.div_le_self _ _) hp
        have hk2 : part / 2 ^ (64 - 4 * p) < 2 ^ (4 * p) := by
          refine Nat.div_lt_of_lt_mul ?_
          rw [← Nat.pow_add, show 64 - 4 * p + 4 * p = 64 by omega]
          omega
        have hpw : 2 ^ (4 * p) ≤ 2 ^ 60 := Nat.pow_le_pow_right (by decide) (by omega)
        have h60 : (2 : Nat) ^ 60 = 1152921504606846976 := by decide
        have hsh := shr_eq part (64 - 4 * p) (by omega)
        have key : ∀ u : Bool, u = decide (hexUp lead part p) → Ev (fun k => floats_float_hex.j3 k (S lead) x (⟨#[]⟩ : ByteArray) ((64 - 4 * p : Nat) : Int) ((part / 2 ^ (64 - 4 * p) : Nat) : Int) u b s m e (p : Int) dot v) (S (hexMid dot (v == 88) lead part p x)) := by
          intro u hu
          unfold hexMid hexKept
          dsimp only
          have fin : ∀ (kk : Nat) (y : Int), kk ≤ 18446744073709551615 → -90001 ≤ y ∧ y ≤ 90001 →
              Ev (fun k => if (p : Int) > 0 then (if 0 ≤ ((64 - 4 * p : Nat) : Int) then ((floats_sixteen.f (shl .u64 (kk : Int) ((64 - 4 * p : Nat) : Int))).bind fun t423 => (if 0 ≤ (p : Int) then (if (p : Int) ≤ (t423.size : Int) then (floats_float_hex.j4 k (S lead) y (t423.extract 0 ((p : Int)).toNat) b s m e (p : Int) dot v) else none) else none)) else none) else (floats_float_hex.j4 k (S lead) y (⟨#[]⟩ : ByteArray) b s m e (p : Int) dot v))
                (S (hexEnd dot (v == 88) lead (if p = 0 then [] else (sixL (kk * 2 ^ (64 - 4 * p) % 18446744073709551616)).take p) y)) := by
            intro kk y hkk hy
            by_cases c0 : p = 0
            · subst c0
              exact Ev.congr (fun k => if_neg (by decide)) (hexEnd_ev (ds := []) b s m e _ v dot hl1 ⟨by decide, Asc.nil⟩ (by omega))
            · have hm64 : kk * 2 ^ (64 - 4 * p) % 18446744073709551616 ≤ 18446744073709551615 := by omega
              have hs16 := sixL_len hm64
              refine Ev.congr (fun k => if_pos (by omega)) ?_
              refine Ev.congr (fun k => if_pos (by omega)) ?_
              rw [shl_eq kk (64 - 4 * p) (by omega), six_eq hm64]
              simp only [Option.bind_some]
              refine Ev.congr (fun k => if_pos (by omega)) ?_
              refine Ev.congr (fun k => if_pos (by rw [size_S]; omega)) ?_
              rw [Int.toNat_natCast, S_take, if_neg c0]
              exact hexEnd_ev b s m e _ v dot hl1 ⟨by rw [List.length_take]; omega, (six_asc _).take p⟩ (by omega)
          refine Ev.step (fun k => by simp only [floats_float_hex.j3]; rfl) ?_
          by_cases cu : hexUp lead part p
          · have hu1 : u = true := by rw [hu]; exact decide_eq_true cu
            subst hu1
            rw [if_pos cu]
            refine Ev.congr (fun k => if_pos rfl) ?_
            generalize hK : part / 2 ^ (64 - 4 * p) = K at *
            have hk1 : K + 1 ≤ 18446744073709551615 := by omega
            have w3 : IntKind.u64.wrap ((K : Int) + 1) = ((K + 1 : Nat) : Int) := by
              rw [show ((K : Int) + 1) = ((K + 1 : Nat) : Int) by omega]
              exact u64c _ hk1
            rw [w2, w3, shr_eq (K + 1) (4 * p) (by omega)]
            refine Ev.congr (fun k => if_pos (by omega)) ?_
            by_cases co : 0 < (K + 1) / 2 ^ (4 * p)
            · refine Ev.congr (fun k => if_pos (by omega)) ?_
              rw [if_pos co, if_pos co, w64 (x := x + 1) (by omega) (by omega)]
              have := fin 0 (x + 1) (by decide) (by omega)
              rw [Nat.zero_mul, Nat.zero_mod] at this
              exact this
            · refine Ev.congr (fun k => if_neg (by omega)) ?_
              rw [if_neg co, if_neg co]
              exact fin (K + 1) x hk1 (by omega)
          · have hu1 : u = false := by rw [hu]; exact decide_eq_false cu
            subst hu1
            have hz : part / 2 ^ (64 - 4 * p) / 2 ^ (4 * p) = 0 := Nat.div_eq_of_lt hk2
            rw [if_neg cu, hz]
            simp only [Nat.lt_irrefl, if_false]
            refine Ev.congr (fun k => if_neg (by simp)) ?_
            exact fin _ x hkb (by omega)
        have j2 : ∀ odd : Bool, odd = decide (part / 2 ^ (64 - 4 * p) % 2 = 1 ∨ (p = 0 ∧ lead = [49])) → Ev (fun k => floats_float_hex.j2 k (S lead) x (⟨#[]⟩ : ByteArray) ((64 - 4 * p : Nat) : Int) low ((part / 2 ^ (64 - 4 * p) : Nat) : Int) odd b s m e (p : Int) dot v) (S (hexMid dot (v == 88) lead part p x)) := by
          intro odd hodd
          refine Ev.step (fun k => by simp only [floats_float_hex.j2]; rfl) ?_
          rw [hlo]
          generalize hW : part * 2 ^ (4 * p) % 18446744073709551616 = W at *
          by_cases d1 : 9223372036854775808 < W
          · refine Ev.congr (fun k => if_pos (by omega)) ?_
            exact key true (by rw [eq_comm]; refine decide_eq_true ?_; unfold hexUp; rw [hW]; exact .inl d1)
          · refine Ev.congr (fun k => if_neg (by omega)) ?_
            by_cases d2 : W = 9223372036854775808
            · refine Ev.congr (fun k => if_pos (by omega)) ?_
              refine key odd ?_
              rw [hodd]
              refine decide_eq_decide.2 ?_
              unfold hexUp
              rw [hW]
              exact ⟨fun h => .inr ⟨d2, h⟩, fun h => h.elim (fun h => absurd h d1) (fun h => h.2)⟩
            · refine Ev.congr (fun k => if_neg (by omega)) ?_
              exact key false (by rw [eq_comm]; refine decide_eq_false ?_; unfold hexUp; rw [hW]; rintro (h | h); exact d1 h; exact d2 h.1)
        refine Ev.step (fun k => by simp only [floats_float_hex.j1]; rfl) ?_
        refine Ev.congr (fun k => if_pos (by omega)) ?_
        rw [hsh, show Int.tmod ((part / 2 ^ (64 - 4 * p) : Nat) : Int) 2 = ((part / 2 ^ (64 - 4 * p) % 2 : Nat) : Int) from tmodN _ 2]
        by_cases d : part / 2 ^ (64 - 4 * p) % 2 = 1
        · refine Ev.congr (fun k => if_pos (by omega)) ?_
          exact j2 true (by rw [eq_comm]; exact decide_eq_true (.inl d))
        · refine Ev.congr (fun k => if_neg (by omega)) ?_
          by_cases d0 : p = 0
          · refine Ev.congr (fun k => if_pos (by omega)) ?_
            refine j2 _ ?_
            rw [toList_L, L_S, Bool.eq_iff_iff]
            simp [d0]
            intro h
            subst d0
            exact absurd h d
          · refine Ev.congr (fun k => if_neg (by omega)) ?_
            exact j2 false (by rw [eq_comm]; refine decide_eq_false ?_; rintro (h | h); exact d h; exact d0 h.1)
      by_cases c4 : ((64 - 4 * p : Nat) : Int) = 64
      · have hp0 : p = 0 := by omega
        refine Ev.congr (fun k => if_pos c4) ?_
        exact hlow _ (by subst hp0; simp; omega)
      · refine Ev.congr (fun k => if_neg c4) ?_
        exact hlow _ (shl_eq part (4 * p) (by omega))
theorem bitLen_le : ∀ (f x : Nat), Lib.bitLenAux f x ≤ f
  | 0, _ => Nat.le_refl _
  | f + 1, x => by
    unfold Lib.bitLenAux
    split
    · exact Nat.zero_le _
    · have := bitLen_le f (x / 2); omega
theorem hex_ev (b s v : Int) (dot : Bool) {m : Nat} (hm : m < 18446744073709551616) {e : Int} (h : -1200 ≤ e ∧ e ≤ 1200) {prec : Int} (hq : -1 ≤ prec ∧ prec ≤ 1000) :
    Ev (fun k => floats_float_hex.f k b s (m : Int) e prec dot v) (S (hexL m e prec dot (v == 88))) := by
  unfold floats_float_hex.f hexL
  by_cases c : m = 0
  · rw [if_pos c]
    refine Ev.congr (fun k => if_neg (by omega)) ?_
    exact hexTail_ev (lead := [48]) (part := 0) b s (m : Int) e v dot (.inl rfl) (by decide) (by decide) hq
  · rw [if_neg c]
    refine Ev.congr (fun k => if_pos (by omega)) ?_
    have hb := bitLen_le 64 m
    have hL : bits_Len64.f (m : Int) = some (Lib.bitLen m : Int) := by
      unfold bits_Len64.f
      rw [if_pos ⟨by omega, by omega⟩, Int.toNat_natCast]
    rw [hL]
    simp only [Option.bind_some]
    change Lib.bitLen m ≤ 64 at hb
    generalize Lib.bitLen m = n at *
    rw [w64 (x := 64 - (n : Int)) (by omega) (by omega)]
    refine Ev.congr (fun k => if_pos (by omega)) ?_
    rw [show (64 - (n : Int)) = ((64 - n : Nat) : Int) by omega, shl_eq m (64 - n) (by omega), w64 (x := e + (n : Int)) (by omega) (by omega), w64 (by omega) (by omega)]
    have w : IntKind.u64.wrap (((m * 2 ^ (64 - n) % 18446744073709551616 : Nat) : Int) * 2) = ((m * 2 ^ (64 - n) % 18446744073709551616 * 2 % 18446744073709551616 : Nat) : Int) := by
      rw [IntKind.wrap_u64]
      generalize m * 2 ^ (64 - n) = y
      omega
    rw [w]
    exact hexTail_ev (lead := [49]) b s (m : Int) e v dot (.inr rfl) (by omega) (by omega) hq
end Go.Proofs.YtecpgdfnamkfdaaGreatDoor.Pure
end
section
namespace Go.Proofs.YtecpgdfnamkfdaaGreatDoor.Pure
open Go.RowKit Go.Proofs.YtecpgdfnamkfdaaGreatDoorW.PrintWords Go.Proofs.YtecpgdfnamkfdaaGreatDoor.Fn
set_option linter.unusedVariables false
set_option linter.unusedSimpArgs false
theorem shortGo_step (wide : Bool) (p : Nat) (v : List UInt8 × Int) (d n : Nat) : shortGo wide p v (d + 1) n = (bestD wide p v n).getD (shortGo wide p v d (n + 1)) := by
  conv => lhs; unfold shortGo
  cases bestD wide p v n <;> rfl
end Go.Proofs.YtecpgdfnamkfdaaGreatDoor.Pure
end
section
namespace Go.Proofs.YtecpgdfnamkfdaaGreatDoor.Pure
open Go.RowKit Go.Proofs.YtecpgdfnamkfdaaGreatDoorW.PrintWords Go.Proofs.YtecpgdfnamkfdaaGreatDoor.Fn
set_option linter.unusedVariables false
set_option linter.unusedSimpArgs false
theorem tenth_W : ∃ p, p + 1 = 4591870180066957722 ∧ p < 9218868437227405312 ∧ fW 52 p * 20 ≤ 2 ^ 1075 ∧ 2 ^ 1075 < fW 52 (p + 1) * 20 ∧ (fW 52 p + fW 52 (p + 1)) * 10 < 2 ^ 1075 := ⟨4591870180066957721, by decide +kernel⟩
theorem tenth_X (wide : Bool) : dX wide 1 (-1) * 10 = CC * 2 ^ uu wide := by
  have hv := vv_eq
  obtain ⟨u, hu⟩ : ∃ u, vv = u + 1 := ⟨vv - 1, by omega⟩
  unfold dX CC
  rw [hu, show (-1 + ((u + 1 : Nat) : Int)).toNat = u by omega, Nat.pow_succ, Nat.one_mul]
  rw [Nat.mul_assoc, Nat.mul_comm (2 ^ uu wide), ← Nat.mul_assoc]
theorem times10 {a X C L : Nat} (hX : X * 10 = C * L) (hC : 0 < C) : (a * (2 * C) ≤ X ↔ a * 20 ≤ L) ∧ (X < a * (2 * C) ↔ L < a * 20) ∧ (a * C < X ↔ a * 10 < L) := by
  have e1 : a * (2 * C) * 10 = C * (a * 20) := by
    rw [show (20 : Nat) = 2 * 10 from rfl]
    simp only [Nat.mul_assoc, Nat.mul_comm, Nat.mul_left_comm]
  have e2 : a * C * 10 = C * (a * 10) := by simp only [Nat.mul_assoc, Nat.mul_comm, Nat.mul_left_comm]
  refine ⟨?_, ?_, ?_⟩
  · rw [← Nat.mul_le_mul_right_iff (show 0 < 10 by decide), e1, hX, Nat.mul_le_mul_left_iff hC]
  · rw [← Nat.mul_lt_mul_right (show 0 < 10 by decide), e1, hX, Nat.mul_lt_mul_left hC]
  · rw [← Nat.mul_lt_mul_right (show 0 < 10 by decide), e2, hX, Nat.mul_lt_mul_left hC]
theorem tenth_read : rdX true (dX true 1 (-1)) = 4591870180066957722 := by
  obtain ⟨p, hp, hi, w1, w2, w3⟩ := tenth_W
  have hX := tenth_X true
  have hu : uu true = 1075 := rfl
  have hf : ff true = 52 := rfl
  have hii : ii true = 9218868437227405312 := rfl
  obtain ⟨L, hL⟩ : ∃ L, 2 ^ 1075 = L := ⟨_, rfl⟩
  rw [hu, hL] at hX
  rw [hL] at w1 w2 w3
  have hfl : fFloor (ff true) (ii true) (dX true 1 (-1)) (2 * CC) p := by
    rw [hf, hii]
    exact ⟨Nat.le_of_lt hi, (times10 hX CC_pos).1.2 w1, fun _ => (times10 hX CC_pos).2.1.2 w2⟩
  rw [rd_at true hfl, if_neg (by omega), hf, if_pos (.inl ((times10 hX CC_pos).2.2.2 w3))]
  exact hp
def tenthL : List UInt8 := [49,48,48,48,48,48,48,48,48,48,48,48,48,48,48,48,48,53,53,53,49,49,49,53,49,50,51,49,50,53,55,56,50,55,48,50,49,49,56,49,53,56,51,52,48,52,53,52,49,48,49,53,54,50,53]
theorem tenth_v : exV true 4591870180066957722 = (tenthL, 0) := by decide +kernel
theorem tenth_short : shortD true 4591870180066957722 = ([49], 0) := by
  unfold shortD
  rw [tenth_v]
  have hl : tenthL.length = 54 + 1 := by decide
  show shortGo true _ (tenthL, 0) tenthL.length 1 = _
  have hn : nearU (tenthL, 0) 1 = 1 := by decide +kernel
  have hE : cE (tenthL, 0) 1 = -1 := by unfold cE; rfl
  have hb : bestD true 4591870180066957722 (tenthL, 0) 1 = some ([49], 0) := by
    unfold bestD
    rw [if_neg (by rw [hl]; decide), hn, hE, if_pos (show isP true 4591870180066957722 1 (-1) from tenth_read)]
    rfl
  rw [hl, shortGo_step, hb]
  rfl
theorem wf_u64 {a : Int} (h : (Lit.int .u64 a).wf = true) : ∃ n : Nat, a = n ∧ n < 18446744073709551616 := by
  have h2 : 0 ≤ a ∧ a < 18446744073709551616 := by
    simp [Lit.wf, IntKind.min, IntKind.max, IntKind.bits, IntKind.signed] at h
    omega
  exact ⟨a.toNat, by omega, by omega⟩
end Go.Proofs.YtecpgdfnamkfdaaGreatDoor.Pure
end
section
namespace Go.Proofs.YtecpgdfnamkfdaaGreatDoor.Pure
open Go.RowKit Go.Proofs.YtecpgdfnamkfdaaGreatDoorW.PrintWords Go.Proofs.YtecpgdfnamkfdaaGreatDoor.Fn
set_option linter.unusedVariables false
set_option linter.unusedSimpArgs false
theorem bare_fin (wide : Bool) {p : Nat} (hp : p < ii wide) : bareN wide p = p := by
  have := (ii_lt wide).2.1
  exact Nat.mod_eq_of_lt (by omega)
end Go.Proofs.YtecpgdfnamkfdaaGreatDoor.Pure
end
section
namespace Go.Proofs.YtecpgdfnamkfdaaGreatDoor.Pure
open Go.RowKit Go.Proofs.YtecpgdfnamkfdaaGreatDoorW.PrintWords Go.Proofs.YtecpgdfnamkfdaaGreatDoor.Fn
set_option linter.unusedVariables false
set_option linter.unusedSimpArgs false
theorem go_spec (wide : Bool) (p : Nat) (v : List UInt8 × Int) : ∀ d n, v.1.length ≤ n + d → ∃ N, n ≤ N ∧ bestD wide p v N = some (shortGo wide p v d n) ∧ ∀ j, n ≤ j → j < N → bestD wide p v j = none := by
  intro d
  induction d with
  | zero =>
    intro n h
    exact ⟨n, Nat.le_refl _, best_all wide p v h, fun j h1 h2 => absurd h1 (Nat.not_le.2 h2)⟩
  | succ d ih =>
    intro n h
    rw [shortGo_step]
    cases hb : bestD wide p v n with
    | some r => exact ⟨n, Nat.le_refl _, hb, fun j h1 h2 => absurd h1 (Nat.not_le.2 h2)⟩
    | none =>
      obtain ⟨N, h1, h2, h3⟩ := ih (n + 1) (by omega)
      refine ⟨N, by omega, h2, fun j h4 h5 => ?_⟩
      by_cases c : j = n
      · rw [c]; exact hb
      · exact h3 j (by omega) h5
theorem short_spec (wide : Bool) (p : Nat) : ∃ N, 1 ≤ N ∧ bestD wide p (exV wide p) N = some (shortD wide p) ∧ ∀ j, 1 ≤ j → j < N → bestD wide p (exV wide p) j = none :=
  go_spec wide p (exV wide p) (exV wide p).1.length 1 (Nat.le_add_left _ _)
theorem best_some {wide : Bool} {p : Nat} {v d : List UInt8 × Int} {n : Nat} (h : bestD wide p v n = some d) : (v.1.length ≤ n ∧ d = v) ∨ (n < v.1.length ∧ ∃ u, (u = cU v n ∨ u = cU v n + 1) ∧ d = decOf u (cE v n) ∧ isP wide p u (cE v n)) := by
  unfold bestD at h
  by_cases c1 : v.1.length ≤ n
  · rw [if_pos c1] at h
    exact .inl ⟨c1, (Option.some.inj h).symm⟩
  · rw [if_neg c1] at h
    refine .inr ⟨Nat.lt_of_not_le c1, ?_⟩
    by_cases c2 : isP wide p (nearU v n) (cE v n)
    · rw [if_pos c2] at h
      exact ⟨_, nearU_two v n, (Option.some.inj h).symm, c2⟩
    · rw [if_neg c2] at h
      by_cases c3 : isP wide p (cU v n) (cE v n)
      · rw [if_pos c3] at h
        exact ⟨_, .inl rfl, (Option.some.inj h).symm, c3⟩
      · rw [if_neg c3] at h
        by_cases c4 : isP wide p (cU v n + 1) (cE v n)
        · rw [if_pos c4] at h
          exact ⟨_, .inr rfl, (Option.some.inj h).symm, c4⟩
        · rw [if_neg c4] at h
          cases h
end Go.Proofs.YtecpgdfnamkfdaaGreatDoor.Pure
end
section
namespace Go.Proofs.YtecpgdfnamkfdaaGreatDoor.Fn
open Go.RowKit Go.Proofs.YtecpgdfnamkfdaaGreatDoorW.PrintWords Go.Proofs.YtecpgdfnamkfdaaGreatDoorW.PrintLast Go.Proofs.YtecpgdfnamkfdaaGreatDoorW.PrintMore
attribute [local go_sem] fnW_0 fnW_1 fnW_2 fnW_3 fnW_4 fnW_5 fnW_guard fnW_eql max2_int min2_int max_two min_two
set_option linter.unusedVariables false
set_option linter.unusedSimpArgs false
mutual
def floats_Float.j0 : Nat → Int → Int → Bool → Int → Int → Int → Int → Bool → Bool → Bool → Bool → Bool → Bool → Int → Int → Int → Option (ByteArray × Bool)
 | 0, _, _, _, _, _, _, _, _, _, _, _, _, _, _, _, _ => none
 | k + 1, x0, x1, x8, x9, x10, x11, x12, x32, x450000, x450001, x450002, x450003, x450004, x450005, x450006, x450007 => if x32 = true then (some ((⟨#[]⟩ : ByteArray), false)) else (if x8 = true then (floats_Float.j1 k x0 x1 x9 x10 x11 x12 (⟨#[]⟩ : ByteArray) (x11 != 2) x450000 x450001 x450002 x450003 x450004 x450005 x450006 x450007) else (floats_Float.j1 k x0 x1 x9 x10 x11 x12 (⟨#[]⟩ : ByteArray) false x450000 x450001 x450002 x450003 x450004 x450005 x450006 x450007))
def floats_Float.j2 : Nat → Int → Int → Int → Int → Int → Int → ByteArray → Bool → Bool → Bool → Bool → Bool → Int → Int → Int → Option (ByteArray × Bool)
 | 0, _, _, _, _, _, _, _, _, _, _, _, _, _, _, _ => none
 | k + 1, x0, x1, x9, x10, x11, x12, x13, x450000, x450001, x450002, x450003, x450004, x450005, x450006, x450007 => if x11 = 2 then (floats_Float.j3 k x13 (⟨#[78, 97, 78]⟩ : ByteArray) x450000 x450001 x450002 x450003 false x450005 x450006 x450007) else (if x11 = 1 then (floats_Float.j3 k x13 (⟨#[73, 110, 102]⟩ : ByteArray) x450000 x450001 x450002 x450003 false x450005 x450006 x450007) else (if x450002 = true then (if x12 = 1 then ((floats_float_scaled.f k x0 x1 x9 x10 (mx (-1) (mn x450006 1000)) (x450007 != 118) x450007).bind fun t456 => (floats_Float.j3 k x13 t456 x450000 x450001 x450002 x450003 x450004 x450005 x450006 x450007)) else (if x12 = 2 then ((floats_float_fixed.f k x0 x1 x9 x10 (mx (-1) (mn x450006 1000)) (x450007 != 118) x450007).bind fun t457 => (floats_Float.j3 k x13 t457 x450000 x450001 x450002 x450003 x450004 x450005 x450006 x450007)) else (if x12 = 3 then ((floats_float_general.f k x0 x1 x9 x10 (mx (-1) (mn x450006 1000)) (x450007 != 118) x450007).bind fun t458 => (floats_Float.j3 k x13 t458 x450000 x450001 x450002 x450003 x450004 x450005 x450006 x450007)) else (if x12 = 4 then ((floats_float_binary.f x0 x1 x9 x10 (mx (-1) (mn x450006 1000)) (x450007 != 118) x450007).bind fun t459 => (floats_Float.j3 k x13 t459 x450000 x450001 x450002 x450003 x450004 x450005 x450006 x450007)) else (if x12 = 5 then ((floats_float_hex.f k x0 x1 x9 x10 (mx (-1) (mn x450006 1000)) (x450007 != 118) x450007).bind fun t460 => (floats_Float.j3 k x13 t460 x450000 x450001 x450002 x450003 x450004 x450005 x450006 x450007)) else (none)))))) else (if x12 = 1 then ((floats_float_scaled.f k x0 x1 x9 x10 (mx (-1) (mn x450006 1000)) false x450007).bind fun t462 => (floats_Float.j3 k x13 t462 x450000 x450001 x450002 x450003 x450004 x450005 x450006 x450007)) else (if x12 = 2 then ((floats_float_fixed.f k x0 x1 x9 x10 (mx (-1) (mn x450006 1000)) false x450007).bind fun t463 => (floats_Float.j3 k x13 t463 x450000 x450001 x450002 x450003 x450004 x450005 x450006 x450007)) else (if x12 = 3 then ((floats_float_general.f k x0 x1 x9 x10 (mx (-1) (mn x450006 1000)) false x450007).bind fun t464 => (floats_Float.j3 k x13 t464 x450000 x450001 x450002 x450003 x450004 x450005 x450006 x450007)) else (if x12 = 4 then ((floats_float_binary.f x0 x1 x9 x10 (mx (-1) (mn x450006 1000)) false x450007).bind fun t465 => (floats_Float.j3 k x13 t465 x450000 x450001 x450002 x450003 x450004 x450005 x450006 x450007)) else (if x12 = 5 then ((floats_float_hex.f k x0 x1 x9 x10 (mx (-1) (mn x450006 1000)) false x450007).bind fun t466 => (floats_Float.j3 k x13 t466 x450000 x450001 x450002 x450003 x450004 x450005 x450006 x450007)) else (none))))))))
def floats_Float.j3 : Nat → ByteArray → ByteArray → Bool → Bool → Bool → Bool → Bool → Int → Int → Int → Option (ByteArray × Bool)
 | 0, _, _, _, _, _, _, _, _, _, _ => none
 | k + 1, x13, x14, x450000, x450001, x450002, x450003, x450004, x450005, x450006, x450007 => if x450004 = true then (floats_Float.j4 k x13 x14 (!x450001) x450000 x450001 x450002 x450003 x450004 x450005 x450006 x450007) else (floats_Float.j4 k x13 x14 false x450000 x450001 x450002 x450003 x450004 x450005 x450006 x450007)
def floats_Float.j4 : Nat → ByteArray → ByteArray → Bool → Bool → Bool → Bool → Bool → Bool → Int → Int → Int → Option (ByteArray × Bool)
 | 0, _, _, _, _, _, _, _, _, _, _, _ => none
 | k + 1, x13, x14, x82, x450000, x450001, x450002, x450003, x450004, x450005, x450006, x450007 => if x82 = true then ((buf_Fill.f 48 (wrap64 ((wrap64 ((mx 0 (mn x450005 1000)) - (x13.size : Int))) - (x14.size : Int)))).bind fun t467 => (if t467.size + x14.size ≤ 9223372036854775807 then (if x13.size + (t467 ++ x14).size ≤ 9223372036854775807 then ((buf_Pad.f (x13 ++ (t467 ++ x14)) x450000 x450001 x450002 x450003 false x450005 x450006 x450007).bind fun t468 => (some (t468, true))) else (none)) else (none))) else (if x13.size + x14.size ≤ 9223372036854775807 then ((buf_Pad.f (x13 ++ x14) x450000 x450001 x450002 x450003 false x450005 x450006 x450007).bind fun t469 => (some (t469, true))) else (none))
def floats_Float.j1 : Nat → Int → Int → Int → Int → Int → Int → ByteArray → Bool → Bool → Bool → Bool → Bool → Bool → Int → Int → Int → Option (ByteArray × Bool)
 | 0, _, _, _, _, _, _, _, _, _, _, _, _, _, _, _, _ => none
 | k + 1, x0, x1, x9, x10, x11, x12, x13, x33, x450000, x450001, x450002, x450003, x450004, x450005, x450006, x450007 => if x33 = true then (floats_Float.j2 k x0 x1 x9 x10 x11 x12 (⟨#[45]⟩ : ByteArray) x450000 x450001 x450002 x450003 x450004 x450005 x450006 x450007) else (if x450000 = true then (floats_Float.j2 k x0 x1 x9 x10 x11 x12 (⟨#[43]⟩ : ByteArray) x450000 x450001 x450002 x450003 x450004 x450005 x450006 x450007) else (if x450003 = true then (floats_Float.j2 k x0 x1 x9 x10 x11 x12 (⟨#[32]⟩ : ByteArray) x450000 x450001 x450002 x450003 x450004 x450005 x450006 x450007) else (if x11 = 1 then (floats_Float.j2 k x0 x1 x9 x10 x11 x12 (⟨#[43]⟩ : ByteArray) x450000 x450001 x450002 x450003 x450004 x450005 x450006 x450007) else (floats_Float.j2 k x0 x1 x9 x10 x11 x12 x13 x450000 x450001 x450002 x450003 x450004 x450005 x450006 x450007))))
end
def floats_Float.f (k : Nat) (a0 : Int) (a1 : Int) (a2_0 : Bool) (a2_1 : Bool) (a2_2 : Bool) (a2_3 : Bool) (a2_4 : Bool) (a2_5 : Int) (a2_6 : Int) (a2_7 : Int) : Option (ByteArray × Bool) := (short_Parts.f a0 a1).bind fun bt450 => ((floats_chosen.f k a2_7).bind fun t454 => (if bt450.2.2.2 = 3 then (floats_Float.j0 k a0 a1 bt450.1 bt450.2.1 bt450.2.2.1 bt450.2.2.2 t454 true a2_0 a2_1 a2_2 a2_3 a2_4 a2_5 a2_6 a2_7) else (floats_Float.j0 k a0 a1 bt450.1 bt450.2.1 bt450.2.2.1 bt450.2.2.2 t454 (t454 == 0) a2_0 a2_1 a2_2 a2_3 a2_4 a2_5 a2_6 a2_7)))
set_option maxHeartbeats 8000000 in
set_option maxRecDepth 100000 in
theorem floats_Float.calls (k : Nat) (a0 : Int) (a1 : Int) (a2_0 : Bool) (a2_1 : Bool) (a2_2 : Bool) (a2_3 : Bool) (a2_4 : Bool) (a2_5 : Int) (a2_6 : Int) (a2_7 : Int) (r1 : ByteArray) (r2 : Bool) (w : World) (h : floats_Float.f k a0 a1 a2_0 a2_1 a2_2 a2_3 a2_4 a2_5 a2_6 a2_7 = some (r1, r2)) :
  Calls Tryz.prog 25 #[.int .u64 a0, .int .i64 a1, .agg #[.bool a2_0, .bool a2_1, .bool a2_2, .bool a2_3, .bool a2_4, .int .i64 a2_5, .int .i64 a2_6, .int .i32 a2_7]] w fun e w' => e = .returned (.tuple #[.string r1, .bool r2]) ∧ Below w.heap.size w w' := by
 have hu26 := Tryz.underlying26
 have hu74 := Tryz.underlying74
 have HB := Aside0.mk (Below.refl w.heap.size w)
 have H : ((short_Parts.f a0 a1).bind fun bt450 => ((floats_chosen.f k a2_7).bind fun t454 => (if bt450.2.2.2 = 3 then (floats_Float.j0 k a0 a1 bt450.1 bt450.2.1 bt450.2.2.1 bt450.2.2.2 t454 true a2_0 a2_1 a2_2 a2_3 a2_4 a2_5 a2_6 a2_7) else (floats_Float.j0 k a0 a1 bt450.1 bt450.2.1 bt450.2.2.1 bt450.2.2.2 t454 (t454 == 0) a2_0 a2_1 a2_2 a2_3 a2_4 a2_5 a2_6 a2_7)))) = some (r1, r2) := h
 clear h
 replace H := bs H
 obtain ⟨⟨t450, t451, t452, t453⟩, A4, H⟩ := H
 dsimp only at H
 replace H := bs H
 obtain ⟨t454, A5, H⟩ := H
 have HC6 := Aside0.mk H
 clear H
 go_enter Tryz.func25, Tryz.ntmps25
 go_upto_region 3 with (first | ((with_reducible refine gate_dst (N := 5) rfl ?_); refine box_event rfl (N := 5) rfl (cs := #[.bool a2_0, .bool a2_1, .bool a2_2, .bool a2_3, .bool a2_4, .int .i64 a2_5, .int .i64 a2_6, .int .i32 a2_7]) (t := 26) gz ?_; intro gb449 hg w7 hbox hb; have GE449 := gN bz hg; have BK449 := Aside0.mk hbox; replace HB := bN bz hb; clear hb hbox hg) | ((with_reducible refine gate_callee (f := 24) rfl ?_); refine goesL_ (some 19) rfl rfl Tryz.func24 (by kernel_rfl) rfl #[.int .u64 a0, .int .i64 a1] rfl lz ?_; (with_reducible refine (short_Parts.calls a0 a1 t450 t451 t452 t453 _ A4.out).mono ?_); rintro e w8 ⟨rfl, hb⟩; refine ⟨_, rfl, ?_⟩; replace BK449 := kN (g := gb449) (cs := #[.bool a2_0, .bool a2_1, .bool a2_2, .bool a2_3, .bool a2_4, .int .i64 a2_5, .int .i64 a2_6, .int .i32 a2_7]) hb bk; replace HB := bN bz hb; (try clear hb); (try clear hb2); (try clear hk); (try clear hi); obtain ⟨hcz9_0, hcz9_1, hcz9_2, hcz9_3, hcz9_4, hcz9_5, hcz9_6, hcz9_7, hfz9_0, hfz9_1, hfz9_2, hfz9_3, hfz9_4, hfz9_5, hfz9_6, hfz9_7⟩ := cz8 (W := w8) BK449) | ((with_reducible refine gate_callee (f := 44) rfl ?_); refine goesL_ (some 26) rfl rfl Tryz.func44 (by kernel_rfl) rfl #[.int .i32 a2_7] rfl lz ?_; (with_reducible refine (floats_chosen.calls k a2_7 t454 _ A5.out).mono ?_); rintro e w' ⟨rfl, ⟨nd, rfl⟩⟩; refine ⟨_, rfl, ?_⟩))
 (try simp only [Act.put, List.setIfInBounds_toArray, List.set_cons_zero, List.set_cons_succ])
 go_cut [32] (fun v32 wc => ∃ (kq : Nat) (x32_5 : Bool), v32 = .bool x32_5 ∧ Aside0 (floats_Float.j0 kq a0 a1 t450 t451 t452 t453 t454 x32_5 a2_0 a2_1 a2_2 a2_3 a2_4 a2_5 a2_6 a2_7 = some (r1, r2)) ∧ Aside0 (kq ≤ k) ∧ Aside0 (wc.heap[gb449]? = some (.cells #[.bool a2_0, .bool a2_1, .bool a2_2, .bool a2_3, .bool a2_4, .int .i64 a2_5, .int .i64 a2_6, .int .i32 a2_7] 26 (0, 0))) ∧ Aside0 (Below w.heap.size w wc))
 case first =>
  have H := HC6.out
  clear HC6
  by_cases c10 : t453 = 3
  ·replace H := hE H c10
   obtain ⟨c10b0, c10b1⟩ := eT c10
   clear c10
   try first | rw [c10b0] | rw [c10b1]
   have H' := Aside0.mk H
   clear H
   go_wp2
   go_meet
   case rel => exact ⟨_, (true), rz, H', ⟨by first | omega | exact Nat.le_refl _⟩, ⟨bk⟩, ⟨bz⟩⟩
  ·replace H := hN H c10
   obtain ⟨c10b0, c10b1⟩ := eF c10
   try first | rw [c10b0] | rw [c10b1]
   have H' := Aside0.mk H
   clear H
   go_wp2
   go_meet
   case rel => exact ⟨_, ((t454 == 0)), rz, H', ⟨by first | omega | exact Nat.le_refl _⟩, ⟨bk⟩, ⟨bz⟩⟩
 case rest =>
  clear HC6
  try clear c10
  try clear c10b0
  try clear c10b1
  try clear hcz9_0 hcz9_1 hcz9_2 hcz9_3 hcz9_4 hcz9_5 hcz9_6 hcz9_7 hfz9_0 hfz9_1 hfz9_2 hfz9_3 hfz9_4 hfz9_5 hfz9_6 hfz9_7
  obtain ⟨kq, x32_5, rfl, HA, HJ5, BK449, HB⟩ := hcut
  cases kq with
  | zero => exact absurd HA.out (by simp [floats_Float.j0])
  | succ kj5 =>
   have H := HA.out
   clear HA
   simp only [floats_Float.j0] at H
   by_cases c11 : x32_5 = true
   ·subst c11
    replace H := hT H
    simp only [Option.some.injEq, Prod.mk.injEq] at H
    obtain ⟨rfl, rfl⟩ := H
    go_wp2
    go_ret2
    exact ⟨ez, bz⟩
   ·replace c11 := Bool.eq_false_iff.mpr c11
    subst c11
    replace H := hF H
    have HC12 := Aside0.mk H
    clear H
    go_upto_block 0 with (fail)
    go_cut [13] (fun v13 wc => ∃ (kq : Nat) (x13_11 : ByteArray), v13 = .string x13_11 ∧ Aside0 (floats_Float.j2 kq a0 a1 t451 t452 t453 t454 x13_11 a2_0 a2_1 a2_2 a2_3 a2_4 a2_5 a2_6 a2_7 = some (r1, r2)) ∧ Aside0 (kq ≤ kj5) ∧ Aside0 (wc.heap[gb449]? = some (.cells #[.bool a2_0, .bool a2_1, .bool a2_2, .bool a2_3, .bool a2_4, .int .i64 a2_5, .int .i64 a2_6, .int .i32 a2_7] 26 (0, 0))) ∧ Aside0 (Below w.heap.size w wc))
    case first =>
     have H := HC12.out
     clear HC12
     have HC13 := Aside0.mk H
     clear H
     go_upto_region 6 with (fail)
     go_cut [33] (fun v33 wc => ∃ (kq : Nat) (x33_12 : Bool), v33 = .bool x33_12 ∧ Aside0 (floats_Float.j1 kq a0 a1 t451 t452 t453 t454 (⟨#[]⟩ : ByteArray) x33_12 a2_0 a2_1 a2_2 a2_3 a2_4 a2_5 a2_6 a2_7 = some (r1, r2)) ∧ Aside0 (kq ≤ kj5) ∧ Aside0 (wc.heap[gb449]? = some (.cells #[.bool a2_0, .bool a2_1, .bool a2_2, .bool a2_3, .bool a2_4, .int .i64 a2_5, .int .i64 a2_6, .int .i32 a2_7] 26 (0, 0))) ∧ Aside0 (Below w.heap.size w wc))
     case first =>
      have H := HC13.out
      clear HC13
      by_cases c14 : t450 = true
      ·subst c14
       replace H := hT H
       have H' := Aside0.mk H
       clear H
       go_wp2
       go_meet
       case rel => exact ⟨_, ((t453 != 2)), rz, H', ⟨by have := HJ5.out; first | omega | exact Nat.le_refl _⟩, ⟨bk⟩, ⟨bz⟩⟩
      ·replace c14 := Bool.eq_false_iff.mpr c14
       subst c14
       replace H := hF H
       have H' := Aside0.mk H
       clear H
       go_wp2
       go_meet
       case rel => exact ⟨_, (false), rz, H', ⟨by have := HJ5.out; first | omega | exact Nat.le_refl _⟩, ⟨bk⟩, ⟨bz⟩⟩
     case rest =>
      clear HC13
      try clear c10
      try clear c10b0
      try clear c10b1
      try clear c11
      try clear c14
      try clear hcz9_0 hcz9_1 hcz9_2 hcz9_3 hcz9_4 hcz9_5 hcz9_6 hcz9_7 hfz9_0 hfz9_1 hfz9_2 hfz9_3 hfz9_4 hfz9_5 hfz9_6 hfz9_7
      obtain ⟨kq, x33_12, rfl, HA, HJ12, BK449, HB⟩ := hcut
      cases kq with
      | zero => exact absurd HA.out (by simp [floats_Float.j1])
      | succ kj12 =>
       have H := HA.out
       clear HA
       simp only [floats_Float.j1] at H
       by_cases c15 : x33_12 = true
       ·subst c15
        replace H := hT H
        have H' := Aside0.mk H
        clear H
        go_wp2
        go_meet
        case rel => exact ⟨_, ((⟨#[45]⟩ : ByteArray)), rz, H', ⟨by have := HJ5.out; have := HJ12.out; first | omega | exact Nat.le_refl _⟩, ⟨bk⟩, ⟨bz⟩⟩
       ·replace c15 := Bool.eq_false_iff.mpr c15
        subst c15
        replace H := hF H
        by_cases c16 : a2_0 = true
        ·subst c16
         replace H := hT H
         have H' := Aside0.mk H
         clear H
         obtain ⟨hcz17_0, hcz17_1, hcz17_2, hcz17_3, hcz17_4, hcz17_5, hcz17_6, hcz17_7, hfz17_0, hfz17_1, hfz17_2, hfz17_3, hfz17_4, hfz17_5, hfz17_6, hfz17_7⟩ := cz8 (W := wc) BK449
         go_wp2
         go_meet
         case rel => exact ⟨_, ((⟨#[43]⟩ : ByteArray)), rz, H', ⟨by have := HJ5.out; have := HJ12.out; first | omega | exact Nat.le_refl _⟩, ⟨bk⟩, ⟨bz⟩⟩
        ·replace c16 := Bool.eq_false_iff.mpr c16
         subst c16
         replace H := hF H
         by_cases c18 : a2_3 = true
         ·subst c18
          replace H := hT H
          have H' := Aside0.mk H
          clear H
          obtain ⟨hcz19_0, hcz19_1, hcz19_2, hcz19_3, hcz19_4, hcz19_5, hcz19_6, hcz19_7, hfz19_0, hfz19_1, hfz19_2, hfz19_3, hfz19_4, hfz19_5, hfz19_6, hfz19_7⟩ := cz8 (W := wc) BK449
          go_wp2
          go_meet
          case rel => exact ⟨_, ((⟨#[32]⟩ : ByteArray)), rz, H', ⟨by have := HJ5.out; have := HJ12.out; first | omega | exact Nat.le_refl _⟩, ⟨bk⟩, ⟨bz⟩⟩
         ·replace c18 := Bool.eq_false_iff.mpr c18
          subst c18
          replace H := hF H
          by_cases c20 : t453 = 1
          ·replace H := hE H c20
           obtain ⟨c20b0, c20b1⟩ := eT c20
           clear c20
           have H' := Aside0.mk H
           clear H
           obtain ⟨hcz21_0, hcz21_1, hcz21_2, hcz21_3, hcz21_4, hcz21_5, hcz21_6, hcz21_7, hfz21_0, hfz21_1, hfz21_2, hfz21_3, hfz21_4, hfz21_5, hfz21_6, hfz21_7⟩ := cz8 (W := wc) BK449
           go_wp2
           go_meet
           case rel => exact ⟨_, ((⟨#[43]⟩ : ByteArray)), rz, H', ⟨by have := HJ5.out; have := HJ12.out; first | omega | exact Nat.le_refl _⟩, ⟨bk⟩, ⟨bz⟩⟩
          ·replace H := hN H c20
           obtain ⟨c20b0, c20b1⟩ := eF c20
           have H' := Aside0.mk H
           clear H
           obtain ⟨hcz22_0, hcz22_1, hcz22_2, hcz22_3, hcz22_4, hcz22_5, hcz22_6, hcz22_7, hfz22_0, hfz22_1, hfz22_2, hfz22_3, hfz22_4, hfz22_5, hfz22_6, hfz22_7⟩ := cz8 (W := wc) BK449
           go_wp2
           go_meet
           case rel => exact ⟨_, ((⟨#[]⟩ : ByteArray)), rz, H', ⟨by have := HJ5.out; have := HJ12.out; first | omega | exact Nat.le_refl _⟩, ⟨bk⟩, ⟨bz⟩⟩
    case rest =>
     clear HC12
     try clear c10
     try clear c10b0
     try clear c10b1
     try clear c11
     try clear c14
     try clear c15
     try clear c16
     try clear c18
     try clear c20
     try clear c20b0
     try clear c20b1
     try clear hcz17_0 hcz17_1 hcz17_2 hcz17_3 hcz17_4 hcz17_5 hcz17_6 hcz17_7 hfz17_0 hfz17_1 hfz17_2 hfz17_3 hfz17_4 hfz17_5 hfz17_6 hfz17_7
     try clear hcz19_0 hcz19_1 hcz19_2 hcz19_3 hcz19_4 hcz19_5 hcz19_6 hcz19_7 hfz19_0 hfz19_1 hfz19_2 hfz19_3 hfz19_4 hfz19_5 hfz19_6 hfz19_7
     try clear hcz21_0 hcz21_1 hcz21_2 hcz21_3 hcz21_4 hcz21_5 hcz21_6 hcz21_7 hfz21_0 hfz21_1 hfz21_2 hfz21_3 hfz21_4 hfz21_5 hfz21_6 hfz21_7
     try clear hcz22_0 hcz22_1 hcz22_2 hcz22_3 hcz22_4 hcz22_5 hcz22_6 hcz22_7 hfz22_0 hfz22_1 hfz22_2 hfz22_3 hfz22_4 hfz22_5 hfz22_6 hfz22_7
     try clear hcz9_0 hcz9_1 hcz9_2 hcz9_3 hcz9_4 hcz9_5 hcz9_6 hcz9_7 hfz9_0 hfz9_1 hfz9_2 hfz9_3 hfz9_4 hfz9_5 hfz9_6 hfz9_7
     obtain ⟨kq, x13_11, rfl, HA, HJ11, BK449, HB⟩ := hcut
     cases kq with
     | zero => exact absurd HA.out (by simp [floats_Float.j2])
     | succ kj11 =>
      have H := HA.out
      clear HA
      simp only [floats_Float.j2] at H
      have HC23 := Aside0.mk H
      clear H
      go_upto_block 1 with (fail)
      go_cut [14] (fun v14 wc => ∃ (kq : Nat) (x14_22 : ByteArray) (x450004_22 : Bool), v14 = .string x14_22 ∧ Aside0 (floats_Float.j3 kq x13_11 x14_22 a2_0 a2_1 a2_2 a2_3 x450004_22 a2_5 a2_6 a2_7 = some (r1, r2)) ∧ Aside0 (kq ≤ kj11) ∧ Aside0 (wc.heap[gb449]? = some (.cells #[.bool a2_0, .bool a2_1, .bool a2_2, .bool a2_3, .bool x450004_22, .int .i64 a2_5, .int .i64 a2_6, .int .i32 a2_7] 26 (0, 0))) ∧ Aside0 (Below w.heap.size w wc))
      case first =>
       have H := HC23.out
       clear HC23
       by_cases c24 : t453 = 2
       ·replace H := hE H c24
        obtain ⟨c24b0, c24b1⟩ := eT c24
        clear c24
        try first | rw [c24b0] | rw [c24b1]
        have H' := Aside0.mk H
        clear H
        obtain ⟨hcz25_0, hcz25_1, hcz25_2, hcz25_3, hcz25_4, hcz25_5, hcz25_6, hcz25_7, hfz25_0, hfz25_1, hfz25_2, hfz25_3, hfz25_4, hfz25_5, hfz25_6, hfz25_7⟩ := cz8 (W := wc) BK449
        go_wp2
        go_meet
        case rel => exact ⟨_, ((⟨#[78, 97, 78]⟩ : ByteArray)), (false), rz, H', ⟨by have := HJ5.out; have := HJ11.out; first | omega | exact Nat.le_refl _⟩, ⟨bk⟩, ⟨bz⟩⟩
       ·replace H := hN H c24
        obtain ⟨c24b0, c24b1⟩ := eF c24
        try first | rw [c24b0] | rw [c24b1]
        by_cases c26 : t453 = 1
        ·replace H := hE H c26
         obtain ⟨c26b0, c26b1⟩ := eT c26
         clear c26
         have H' := Aside0.mk H
         clear H
         obtain ⟨hcz27_0, hcz27_1, hcz27_2, hcz27_3, hcz27_4, hcz27_5, hcz27_6, hcz27_7, hfz27_0, hfz27_1, hfz27_2, hfz27_3, hfz27_4, hfz27_5, hfz27_6, hfz27_7⟩ := cz8 (W := wc) BK449
         go_wp2
         go_meet
         case rel => exact ⟨_, ((⟨#[73, 110, 102]⟩ : ByteArray)), (false), rz, H', ⟨by have := HJ5.out; have := HJ11.out; first | omega | exact Nat.le_refl _⟩, ⟨bk⟩, ⟨bz⟩⟩
        ·replace H := hN H c26
         obtain ⟨c26b0, c26b1⟩ := eF c26
         obtain ⟨ji28, hji28⟩ : ∃ j_ : Int, (mn a2_6 1000) = j_ := ⟨_, rfl⟩
         (first | rw [hji28] at H | simp only [hji28] at H)
         have hji28_ : (if 1000 < a2_6 then 1000 else a2_6) = ji28 := hji28
         obtain ⟨ji29, hji29⟩ : ∃ j_ : Int, (mx (-1) (ji28)) = j_ := ⟨_, rfl⟩
         (first | rw [hji29] at H | simp only [hji29] at H)
         have hji29_ : (if (-1) < (ji28) then (ji28) else (-1)) = ji29 := hji29
         by_cases c30 : a2_2 = true
         ·subst c30
          replace H := hT H
          by_cases c31 : t454 = 1
          ·subst c31
           replace H := hE H rfl
           (try simp only [fnW_1])
           replace H := bs H
           obtain ⟨t456, A32, H⟩ := H
           have H' := Aside0.mk H
           clear H
           obtain ⟨hcz33_0, hcz33_1, hcz33_2, hcz33_3, hcz33_4, hcz33_5, hcz33_6, hcz33_7, hfz33_0, hfz33_1, hfz33_2, hfz33_3, hfz33_4, hfz33_5, hfz33_6, hfz33_7⟩ := cz8 (W := wc) BK449
           go_wp2_with (first | ((with_reducible refine gate_dst (N := 15) rfl ?_); refine box_event rfl (N := 15) rfl (cs := #[.int .u64 0, .int .i64 0, .int .u64 0, .int .i64 0, .int .i64 0, .bool false, .int .i32 0]) (t := 74) gz ?_; intro gb455 hg w34 hbox hb; have GW455 := gN bz hg; have GE455 := gN bz hg; have NB449_455 := lN (g := gb449) (cs := #[.bool a2_0, .bool a2_1, .bool true, .bool a2_3, .bool a2_4, .int .i64 a2_5, .int .i64 a2_6, .int .i32 a2_7]) hg bk; have NB455_449 := rN (g := gb449) (cs := #[.bool a2_0, .bool a2_1, .bool true, .bool a2_3, .bool a2_4, .int .i64 a2_5, .int .i64 a2_6, .int .i32 a2_7]) hg bk; replace BK449 := kN (g := gb449) (cs := #[.bool a2_0, .bool a2_1, .bool true, .bool a2_3, .bool a2_4, .int .i64 a2_5, .int .i64 a2_6, .int .i32 a2_7]) hb bk; have BK455 := Aside0.mk hbox; replace HB := bN bz hb; clear hb hbox hg; have hnb35 := NB455_449.out; have hnc35 := NB449_455.out; obtain ⟨hcz36_0, hcz36_1, hcz36_2, hcz36_3, hcz36_4, hcz36_5, hcz36_6, hfz36_0, hfz36_1, hfz36_2, hfz36_3, hfz36_4, hfz36_5, hfz36_6⟩ := cz7 (W := w34) BK455) | (go_at_call 66; (with_reducible refine (floats_float_scaled.calls kj11 a0 a1 t451 t452 ji29 (a2_7 != 118) a2_7 t456 _ A32.out).mono ?_); rintro e w37 ⟨rfl, hb⟩; replace BK449 := kN (g := gb449) (cs := #[.bool a2_0, .bool a2_1, .bool true, .bool a2_3, .bool a2_4, .int .i64 a2_5, .int .i64 a2_6, .int .i32 a2_7]) hb bk; replace BK455 := kN (g := gb455) (cs := #[.int .u64 a0, .int .i64 a1, .int .u64 t451, .int .i64 t452, .int .i64 ji29, .bool (a2_7 != 118), .int .i32 a2_7]) hb bk; replace HB := bN bz hb; (try clear hb); (try clear hb2); (try clear hk); (try clear hi)))
           go_meet
           case rel => exact ⟨_, (t456), (a2_4), rz, H', ⟨by have := HJ5.out; have := HJ11.out; first | omega | exact Nat.le_refl _⟩, ⟨bk⟩, ⟨bz⟩⟩
          ·replace H := hN H c31
           by_cases c38 : t454 = 2
           ·subst c38
            replace H := hE H rfl
            (try simp only [fnW_2])
            replace H := bs H
            obtain ⟨t457, A39, H⟩ := H
            have H' := Aside0.mk H
            clear H
            obtain ⟨hcz40_0, hcz40_1, hcz40_2, hcz40_3, hcz40_4, hcz40_5, hcz40_6, hcz40_7, hfz40_0, hfz40_1, hfz40_2, hfz40_3, hfz40_4, hfz40_5, hfz40_6, hfz40_7⟩ := cz8 (W := wc) BK449
            go_wp2_with (first | ((with_reducible refine gate_dst (N := 15) rfl ?_); refine box_event rfl (N := 15) rfl (cs := #[.int .u64 0, .int .i64 0, .int .u64 0, .int .i64 0, .int .i64 0, .bool false, .int .i32 0]) (t := 74) gz ?_; intro gb455 hg w41 hbox hb; have GW455 := gN bz hg; have GE455 := gN bz hg; have NB449_455 := lN (g := gb449) (cs := #[.bool a2_0, .bool a2_1, .bool true, .bool a2_3, .bool a2_4, .int .i64 a2_5, .int .i64 a2_6, .int .i32 a2_7]) hg bk; have NB455_449 := rN (g := gb449) (cs := #[.bool a2_0, .bool a2_1, .bool true, .bool a2_3, .bool a2_4, .int .i64 a2_5, .int .i64 a2_6, .int .i32 a2_7]) hg bk; replace BK449 := kN (g := gb449) (cs := #[.bool a2_0, .bool a2_1, .bool true, .bool a2_3, .bool a2_4, .int .i64 a2_5, .int .i64 a2_6, .int .i32 a2_7]) hb bk; have BK455 := Aside0.mk hbox; replace HB := bN bz hb; clear hb hbox hg; have hnb42 := NB455_449.out; have hnc42 := NB449_455.out; obtain ⟨hcz43_0, hcz43_1, hcz43_2, hcz43_3, hcz43_4, hcz43_5, hcz43_6, hfz43_0, hfz43_1, hfz43_2, hfz43_3, hfz43_4, hfz43_5, hfz43_6⟩ := cz7 (W := w41) BK455) | (go_at_call 67; (with_reducible refine (floats_float_fixed.calls kj11 a0 a1 t451 t452 ji29 (a2_7 != 118) a2_7 t457 _ A39.out).mono ?_); rintro e w44 ⟨rfl, hb⟩; replace BK449 := kN (g := gb449) (cs := #[.bool a2_0, .bool a2_1, .bool true, .bool a2_3, .bool a2_4, .int .i64 a2_5, .int .i64 a2_6, .int .i32 a2_7]) hb bk; replace BK455 := kN (g := gb455) (cs := #[.int .u64 a0, .int .i64 a1, .int .u64 t451, .int .i64 t452, .int .i64 ji29, .bool (a2_7 != 118), .int .i32 a2_7]) hb bk; replace HB := bN bz hb; (try clear hb); (try clear hb2); (try clear hk); (try clear hi)))
            go_meet
            case rel => exact ⟨_, (t457), (a2_4), rz, H', ⟨by have := HJ5.out; have := HJ11.out; first | omega | exact Nat.le_refl _⟩, ⟨bk⟩, ⟨bz⟩⟩
           ·replace H := hN H c38
            by_cases c45 : t454 = 3
            ·subst c45
             replace H := hE H rfl
             (try simp only [fnW_3])
             replace H := bs H
             obtain ⟨t458, A46, H⟩ := H
             have H' := Aside0.mk H
             clear H
             obtain ⟨hcz47_0, hcz47_1, hcz47_2, hcz47_3, hcz47_4, hcz47_5, hcz47_6, hcz47_7, hfz47_0, hfz47_1, hfz47_2, hfz47_3, hfz47_4, hfz47_5, hfz47_6, hfz47_7⟩ := cz8 (W := wc) BK449
             go_wp2_with (first | ((with_reducible refine gate_dst (N := 15) rfl ?_); refine box_event rfl (N := 15) rfl (cs := #[.int .u64 0, .int .i64 0, .int .u64 0, .int .i64 0, .int .i64 0, .bool false, .int .i32 0]) (t := 74) gz ?_; intro gb455 hg w48 hbox hb; have GW455 := gN bz hg; have GE455 := gN bz hg; have NB449_455 := lN (g := gb449) (cs := #[.bool a2_0, .bool a2_1, .bool true, .bool a2_3, .bool a2_4, .int .i64 a2_5, .int .i64 a2_6, .int .i32 a2_7]) hg bk; have NB455_449 := rN (g := gb449) (cs := #[.bool a2_0, .bool a2_1, .bool true, .bool a2_3, .bool a2_4, .int .i64 a2_5, .int .i64 a2_6, .int .i32 a2_7]) hg bk; replace BK449 := kN (g := gb449) (cs := #[.bool a2_0, .bool a2_1, .bool true, .bool a2_3, .bool a2_4, .int .i64 a2_5, .int .i64 a2_6, .int .i32 a2_7]) hb bk; have BK455 := Aside0.mk hbox; replace HB := bN bz hb; clear hb hbox hg; have hnb49 := NB455_449.out; have hnc49 := NB449_455.out; obtain ⟨hcz50_0, hcz50_1, hcz50_2, hcz50_3, hcz50_4, hcz50_5, hcz50_6, hfz50_0, hfz50_1, hfz50_2, hfz50_3, hfz50_4, hfz50_5, hfz50_6⟩ := cz7 (W := w48) BK455) | (go_at_call 68; (with_reducible refine (floats_float_general.calls kj11 a0 a1 t451 t452 ji29 (a2_7 != 118) a2_7 t458 _ A46.out).mono ?_); rintro e w51 ⟨rfl, hb⟩; replace BK449 := kN (g := gb449) (cs := #[.bool a2_0, .bool a2_1, .bool true, .bool a2_3, .bool a2_4, .int .i64 a2_5, .int .i64 a2_6, .int .i32 a2_7]) hb bk; replace BK455 := kN (g := gb455) (cs := #[.int .u64 a0, .int .i64 a1, .int .u64 t451, .int .i64 t452, .int .i64 ji29, .bool (a2_7 != 118), .int .i32 a2_7]) hb bk; replace HB := bN bz hb; (try clear hb); (try clear hb2); (try clear hk); (try clear hi)))
             go_meet
             case rel => exact ⟨_, (t458), (a2_4), rz, H', ⟨by have := HJ5.out; have := HJ11.out; first | omega | exact Nat.le_refl _⟩, ⟨bk⟩, ⟨bz⟩⟩
            ·replace H := hN H c45
             by_cases c52 : t454 = 4
             ·subst c52
              replace H := hE H rfl
              (try simp only [fnW_4])
              replace H := bs H
              obtain ⟨t459, A53, H⟩ := H
              have H' := Aside0.mk H
              clear H
              obtain ⟨hcz54_0, hcz54_1, hcz54_2, hcz54_3, hcz54_4, hcz54_5, hcz54_6, hcz54_7, hfz54_0, hfz54_1, hfz54_2, hfz54_3, hfz54_4, hfz54_5, hfz54_6, hfz54_7⟩ := cz8 (W := wc) BK449
              go_wp2_with (first | ((with_reducible refine gate_dst (N := 15) rfl ?_); refine box_event rfl (N := 15) rfl (cs := #[.int .u64 0, .int .i64 0, .int .u64 0, .int .i64 0, .int .i64 0, .bool false, .int .i32 0]) (t := 74) gz ?_; intro gb455 hg w55 hbox hb; have GW455 := gN bz hg; have GE455 := gN bz hg; have NB449_455 := lN (g := gb449) (cs := #[.bool a2_0, .bool a2_1, .bool true, .bool a2_3, .bool a2_4, .int .i64 a2_5, .int .i64 a2_6, .int .i32 a2_7]) hg bk; have NB455_449 := rN (g := gb449) (cs := #[.bool a2_0, .bool a2_1, .bool true, .bool a2_3, .bool a2_4, .int .i64 a2_5, .int .i64 a2_6, .int .i32 a2_7]) hg bk; replace BK449 := kN (g := gb449) (cs := #[.bool a2_0, .bool a2_1, .bool true, .bool a2_3, .bool a2_4, .int .i64 a2_5, .int .i64 a2_6, .int .i32 a2_7]) hb bk; have BK455 := Aside0.mk hbox; replace HB := bN bz hb; clear hb hbox hg; have hnb56 := NB455_449.out; have hnc56 := NB449_455.out; obtain ⟨hcz57_0, hcz57_1, hcz57_2, hcz57_3, hcz57_4, hcz57_5, hcz57_6, hfz57_0, hfz57_1, hfz57_2, hfz57_3, hfz57_4, hfz57_5, hfz57_6⟩ := cz7 (W := w55) BK455) | (go_at_call 69; (with_reducible refine (floats_float_binary.calls a0 a1 t451 t452 ji29 (a2_7 != 118) a2_7 t459 _ A53.out).mono ?_); rintro e w58 ⟨rfl, hb⟩; replace BK449 := kN (g := gb449) (cs := #[.bool a2_0, .bool a2_1, .bool true, .bool a2_3, .bool a2_4, .int .i64 a2_5, .int .i64 a2_6, .int .i32 a2_7]) hb bk; replace BK455 := kN (g := gb455) (cs := #[.int .u64 a0, .int .i64 a1, .int .u64 t451, .int .i64 t452, .int .i64 ji29, .bool (a2_7 != 118), .int .i32 a2_7]) hb bk; replace HB := bN bz hb; (try clear hb); (try clear hb2); (try clear hk); (try clear hi)))
              go_meet
              case rel => exact ⟨_, (t459), (a2_4), rz, H', ⟨by have := HJ5.out; have := HJ11.out; first | omega | exact Nat.le_refl _⟩, ⟨bk⟩, ⟨bz⟩⟩
             ·replace H := hN H c52
              by_cases c59 : t454 = 5
              ·subst c59
               replace H := hE H rfl
               (try simp only [fnW_5])
               replace H := bs H
               obtain ⟨t460, A60, H⟩ := H
               have H' := Aside0.mk H
               clear H
               obtain ⟨hcz61_0, hcz61_1, hcz61_2, hcz61_3, hcz61_4, hcz61_5, hcz61_6, hcz61_7, hfz61_0, hfz61_1, hfz61_2, hfz61_3, hfz61_4, hfz61_5, hfz61_6, hfz61_7⟩ := cz8 (W := wc) BK449
               go_wp2_with (first | ((with_reducible refine gate_dst (N := 15) rfl ?_); refine box_event rfl (N := 15) rfl (cs := #[.int .u64 0, .int .i64 0, .int .u64 0, .int .i64 0, .int .i64 0, .bool false, .int .i32 0]) (t := 74) gz ?_; intro gb455 hg w62 hbox hb; have GW455 := gN bz hg; have GE455 := gN bz hg; have NB449_455 := lN (g := gb449) (cs := #[.bool a2_0, .bool a2_1, .bool true, .bool a2_3, .bool a2_4, .int .i64 a2_5, .int .i64 a2_6, .int .i32 a2_7]) hg bk; have NB455_449 := rN (g := gb449) (cs := #[.bool a2_0, .bool a2_1, .bool true, .bool a2_3, .bool a2_4, .int .i64 a2_5, .int .i64 a2_6, .int .i32 a2_7]) hg bk; replace BK449 := kN (g := gb449) (cs := #[.bool a2_0, .bool a2_1, .bool true, .bool a2_3, .bool a2_4, .int .i64 a2_5, .int .i64 a2_6, .int .i32 a2_7]) hb bk; have BK455 := Aside0.mk hbox; replace HB := bN bz hb; clear hb hbox hg; have hnb63 := NB455_449.out; have hnc63 := NB449_455.out; obtain ⟨hcz64_0, hcz64_1, hcz64_2, hcz64_3, hcz64_4, hcz64_5, hcz64_6, hfz64_0, hfz64_1, hfz64_2, hfz64_3, hfz64_4, hfz64_5, hfz64_6⟩ := cz7 (W := w62) BK455) | (go_at_call 70; (with_reducible refine (floats_float_hex.calls kj11 a0 a1 t451 t452 ji29 (a2_7 != 118) a2_7 t460 _ A60.out).mono ?_); rintro e w65 ⟨rfl, hb⟩; replace BK449 := kN (g := gb449) (cs := #[.bool a2_0, .bool a2_1, .bool true, .bool a2_3, .bool a2_4, .int .i64 a2_5, .int .i64 a2_6, .int .i32 a2_7]) hb bk; replace BK455 := kN (g := gb455) (cs := #[.int .u64 a0, .int .i64 a1, .int .u64 t451, .int .i64 t452, .int .i64 ji29, .bool (a2_7 != 118), .int .i32 a2_7]) hb bk; replace HB := bN bz hb; (try clear hb); (try clear hb2); (try clear hk); (try clear hi)))
               go_meet
               case rel => exact ⟨_, (t460), (a2_4), rz, H', ⟨by have := HJ5.out; have := HJ11.out; first | omega | exact Nat.le_refl _⟩, ⟨bk⟩, ⟨bz⟩⟩
              ·replace H := hN H c59
               exact absurd H (by simp)
         ·replace c30 := Bool.eq_false_iff.mpr c30
          subst c30
          replace H := hF H
          by_cases c66 : t454 = 1
          ·subst c66
           replace H := hE H rfl
           (try simp only [fnW_1])
           replace H := bs H
           obtain ⟨t462, A67, H⟩ := H
           have H' := Aside0.mk H
           clear H
           obtain ⟨hcz68_0, hcz68_1, hcz68_2, hcz68_3, hcz68_4, hcz68_5, hcz68_6, hcz68_7, hfz68_0, hfz68_1, hfz68_2, hfz68_3, hfz68_4, hfz68_5, hfz68_6, hfz68_7⟩ := cz8 (W := wc) BK449
           go_wp2_with (first | ((with_reducible refine gate_dst (N := 15) rfl ?_); refine box_event rfl (N := 15) rfl (cs := #[.int .u64 0, .int .i64 0, .int .u64 0, .int .i64 0, .int .i64 0, .bool false, .int .i32 0]) (t := 74) gz ?_; intro gb461 hg w69 hbox hb; have GW461 := gN bz hg; have GE461 := gN bz hg; have NB449_461 := lN (g := gb449) (cs := #[.bool a2_0, .bool a2_1, .bool false, .bool a2_3, .bool a2_4, .int .i64 a2_5, .int .i64 a2_6, .int .i32 a2_7]) hg bk; have NB461_449 := rN (g := gb449) (cs := #[.bool a2_0, .bool a2_1, .bool false, .bool a2_3, .bool a2_4, .int .i64 a2_5, .int .i64 a2_6, .int .i32 a2_7]) hg bk; replace BK449 := kN (g := gb449) (cs := #[.bool a2_0, .bool a2_1, .bool false, .bool a2_3, .bool a2_4, .int .i64 a2_5, .int .i64 a2_6, .int .i32 a2_7]) hb bk; have BK461 := Aside0.mk hbox; replace HB := bN bz hb; clear hb hbox hg; have hnb70 := NB461_449.out; have hnc70 := NB449_461.out; obtain ⟨hcz71_0, hcz71_1, hcz71_2, hcz71_3, hcz71_4, hcz71_5, hcz71_6, hfz71_0, hfz71_1, hfz71_2, hfz71_3, hfz71_4, hfz71_5, hfz71_6⟩ := cz7 (W := w69) BK461) | (go_at_call 66; (with_reducible refine (floats_float_scaled.calls kj11 a0 a1 t451 t452 ji29 false a2_7 t462 _ A67.out).mono ?_); rintro e w72 ⟨rfl, hb⟩; replace BK449 := kN (g := gb449) (cs := #[.bool a2_0, .bool a2_1, .bool false, .bool a2_3, .bool a2_4, .int .i64 a2_5, .int .i64 a2_6, .int .i32 a2_7]) hb bk; replace BK461 := kN (g := gb461) (cs := #[.int .u64 a0, .int .i64 a1, .int .u64 t451, .int .i64 t452, .int .i64 ji29, .bool false, .int .i32 a2_7]) hb bk; replace HB := bN bz hb; (try clear hb); (try clear hb2); (try clear hk); (try clear hi)))
           go_meet
           case rel => exact ⟨_, (t462), (a2_4), rz, H', ⟨by have := HJ5.out; have := HJ11.out; first | omega | exact Nat.le_refl _⟩, ⟨bk⟩, ⟨bz⟩⟩
          ·replace H := hN H c66
           by_cases c73 : t454 = 2
           ·subst c73
            replace H := hE H rfl
            (try simp only [fnW_2])
            replace H := bs H
            obtain ⟨t463, A74, H⟩ := H
            have H' := Aside0.mk H
            clear H
            obtain ⟨hcz75_0, hcz75_1, hcz75_2, hcz75_3, hcz75_4, hcz75_5, hcz75_6, hcz75_7, hfz75_0, hfz75_1, hfz75_2, hfz75_3, hfz75_4, hfz75_5, hfz75_6, hfz75_7⟩ := cz8 (W := wc) BK449
            go_wp2_with (first | ((with_reducible refine gate_dst (N := 15) rfl ?_); refine box_event rfl (N := 15) rfl (cs := #[.int .u64 0, .int .i64 0, .int .u64 0, .int .i64 0, .int .i64 0, .bool false, .int .i32 0]) (t := 74) gz ?_; intro gb461 hg w76 hbox hb; have GW461 := gN bz hg; have GE461 := gN bz hg; have NB449_461 := lN (g := gb449) (cs := #[.bool a2_0, .bool a2_1, .bool false, .bool a2_3, .bool a2_4, .int .i64 a2_5, .int .i64 a2_6, .int .i32 a2_7]) hg bk; have NB461_449 := rN (g := gb449) (cs := #[.bool a2_0, .bool a2_1, .bool false, .bool a2_3, .bool a2_4, .int .i64 a2_5, .int .i64 a2_6, .int .i32 a2_7]) hg bk; replace BK449 := kN (g := gb449) (cs := #[.bool a2_0, .bool a2_1, .bool false, .bool a2_3, .bool a2_4, .int .i64 a2_5, .int .i64 a2_6, .int .i32 a2_7]) hb bk; have BK461 := Aside0.mk hbox; replace HB := bN bz hb; clear hb hbox hg; have hnb77 := NB461_449.out; have hnc77 := NB449_461.out; obtain ⟨hcz78_0, hcz78_1, hcz78_2, hcz78_3, hcz78_4, hcz78_5, hcz78_6, hfz78_0, hfz78_1, hfz78_2, hfz78_3, hfz78_4, hfz78_5, hfz78_6⟩ := cz7 (W := w76) BK461) | (go_at_call 67; (with_reducible refine (floats_float_fixed.calls kj11 a0 a1 t451 t452 ji29 false a2_7 t463 _ A74.out).mono ?_); rintro e w79 ⟨rfl, hb⟩; replace BK449 := kN (g := gb449) (cs := #[.bool a2_0, .bool a2_1, .bool false, .bool a2_3, .bool a2_4, .int .i64 a2_5, .int .i64 a2_6, .int .i32 a2_7]) hb bk; replace BK461 := kN (g := gb461) (cs := #[.int .u64 a0, .int .i64 a1, .int .u64 t451, .int .i64 t452, .int .i64 ji29, .bool false, .int .i32 a2_7]) hb bk; replace HB := bN bz hb; (try clear hb); (try clear hb2); (try clear hk); (try clear hi)))
            go_meet
            case rel => exact ⟨_, (t463), (a2_4), rz, H', ⟨by have := HJ5.out; have := HJ11.out; first | omega | exact Nat.le_refl _⟩, ⟨bk⟩, ⟨bz⟩⟩
           ·replace H := hN H c73
            by_cases c80 : t454 = 3
            ·subst c80
             replace H := hE H rfl
             (try simp only [fnW_3])
             replace H := bs H
             obtain ⟨t464, A81, H⟩ := H
             have H' := Aside0.mk H
             clear H
             obtain ⟨hcz82_0, hcz82_1, hcz82_2, hcz82_3, hcz82_4, hcz82_5, hcz82_6, hcz82_7, hfz82_0, hfz82_1, hfz82_2, hfz82_3, hfz82_4, hfz82_5, hfz82_6, hfz82_7⟩ := cz8 (W := wc) BK449
             go_wp2_with (first | ((with_reducible refine gate_dst (N := 15) rfl ?_); refine box_event rfl (N := 15) rfl (cs := #[.int .u64 0, .int .i64 0, .int .u64 0, .int .i64 0, .int .i64 0, .bool false, .int .i32 0]) (t := 74) gz ?_; intro gb461 hg w83 hbox hb; have GW461 := gN bz hg; have GE461 := gN bz hg; have NB449_461 := lN (g := gb449) (cs := #[.bool a2_0, .bool a2_1, .bool false, .bool a2_3, .bool a2_4, .int .i64 a2_5, .int .i64 a2_6, .int .i32 a2_7]) hg bk; have NB461_449 := rN (g := gb449) (cs := #[.bool a2_0, .bool a2_1, .bool false, .bool a2_3, .bool a2_4, .int .i64 a2_5, .int .i64 a2_6, .int .i32 a2_7]) hg bk; replace BK449 := kN (g := gb449) (cs := #[.bool a2_0, .bool a2_1, .bool false, .bool a2_3, .bool a2_4, .int .i64 a2_5, .int .i64 a2_6, .int .i32 a2_7]) hb bk; have BK461 := Aside0.mk hbox; replace HB := bN bz hb; clear hb hbox hg; have hnb84 := NB461_449.out; have hnc84 := NB449_461.out; obtain ⟨hcz85_0, hcz85_1, hcz85_2, hcz85_3, hcz85_4, hcz85_5, hcz85_6, hfz85_0, hfz85_1, hfz85_2, hfz85_3, hfz85_4, hfz85_5, hfz85_6⟩ := cz7 (W := w83) BK461) | (go_at_call 68; (with_reducible refine (floats_float_general.calls kj11 a0 a1 t451 t452 ji29 false a2_7 t464 _ A81.out).mono ?_); rintro e w86 ⟨rfl, hb⟩; replace BK449 := kN (g := gb449) (cs := #[.bool a2_0, .bool a2_1, .bool false, .bool a2_3, .bool a2_4, .int .i64 a2_5, .int .i64 a2_6, .int .i32 a2_7]) hb bk; replace BK461 := kN (g := gb461) (cs := #[.int .u64 a0, .int .i64 a1, .int .u64 t451, .int .i64 t452, .int .i64 ji29, .bool false, .int .i32 a2_7]) hb bk; replace HB := bN bz hb; (try clear hb); (try clear hb2); (try clear hk); (try clear hi)))
             go_meet
             case rel => exact ⟨_, (t464), (a2_4), rz, H', ⟨by have := HJ5.out; have := HJ11.out; first | omega | exact Nat.le_refl _⟩, ⟨bk⟩, ⟨bz⟩⟩
            ·replace H := hN H c80
             by_cases c87 : t454 = 4
             ·subst c87
              replace H := hE H rfl
              (try simp only [fnW_4])
              replace H := bs H
              obtain ⟨t465, A88, H⟩ := H
              have H' := Aside0.mk H
              clear H
              obtain ⟨hcz89_0, hcz89_1, hcz89_2, hcz89_3, hcz89_4, hcz89_5, hcz89_6, hcz89_7, hfz89_0, hfz89_1, hfz89_2, hfz89_3, hfz89_4, hfz89_5, hfz89_6, hfz89_7⟩ := cz8 (W := wc) BK449
              go_wp2_with (first | ((with_reducible refine gate_dst (N := 15) rfl ?_); refine box_event rfl (N := 15) rfl (cs := #[.int .u64 0, .int .i64 0, .int .u64 0, .int .i64 0, .int .i64 0, .bool false, .int .i32 0]) (t := 74) gz ?_; intro gb461 hg w90 hbox hb; have GW461 := gN bz hg; have GE461 := gN bz hg; have NB449_461 := lN (g := gb449) (cs := #[.bool a2_0, .bool a2_1, .bool false, .bool a2_3, .bool a2_4, .int .i64 a2_5, .int .i64 a2_6, .int .i32 a2_7]) hg bk; have NB461_449 := rN (g := gb449) (cs := #[.bool a2_0, .bool a2_1, .bool false, .bool a2_3, .bool a2_4, .int .i64 a2_5, .int .i64 a2_6, .int .i32 a2_7]) hg bk; replace BK449 := kN (g := gb449) (cs := #[.bool a2_0, .bool a2_1, .bool false, .bool a2_3, .bool a2_4, .int .i64 a2_5, .int .i64 a2_6, .int .i32 a2_7]) hb bk; have BK461 := Aside0.mk hbox; replace HB := bN bz hb; clear hb hbox hg; have hnb91 := NB461_449.out; have hnc91 := NB449_461.out; obtain ⟨hcz92_0, hcz92_1, hcz92_2, hcz92_3, hcz92_4, hcz92_5, hcz92_6, hfz92_0, hfz92_1, hfz92_2, hfz92_3, hfz92_4, hfz92_5, hfz92_6⟩ := cz7 (W := w90) BK461) | (go_at_call 69; (with_reducible refine (floats_float_binary.calls a0 a1 t451 t452 ji29 false a2_7 t465 _ A88.out).mono ?_); rintro e w93 ⟨rfl, hb⟩; replace BK449 := kN (g := gb449) (cs := #[.bool a2_0, .bool a2_1, .bool false, .bool a2_3, .bool a2_4, .int .i64 a2_5, .int .i64 a2_6, .int .i32 a2_7]) hb bk; replace BK461 := kN (g := gb461) (cs := #[.int .u64 a0, .int .i64 a1, .int .u64 t451, .int .i64 t452, .int .i64 ji29, .bool false, .int .i32 a2_7]) hb bk; replace HB := bN bz hb; (try clear hb); (try clear hb2); (try clear hk); (try clear hi)))
              go_meet
              case rel => exact ⟨_, (t465), (a2_4), rz, H', ⟨by have := HJ5.out; have := HJ11.out; first | omega | exact Nat.le_refl _⟩, ⟨bk⟩, ⟨bz⟩⟩
             ·replace H := hN H c87
              by_cases c94 : t454 = 5
              ·subst c94
               replace H := hE H rfl
               (try simp only [fnW_5])
               replace H := bs H
               obtain ⟨t466, A95, H⟩ := H
               have H' := Aside0.mk H
               clear H
               obtain ⟨hcz96_0, hcz96_1, hcz96_2, hcz96_3, hcz96_4, hcz96_5, hcz96_6, hcz96_7, hfz96_0, hfz96_1, hfz96_2, hfz96_3, hfz96_4, hfz96_5, hfz96_6, hfz96_7⟩ := cz8 (W := wc) BK449
               go_wp2_with (first | ((with_reducible refine gate_dst (N := 15) rfl ?_); refine box_event rfl (N := 15) rfl (cs := #[.int .u64 0, .int .i64 0, .int .u64 0, .int .i64 0, .int .i64 0, .bool false, .int .i32 0]) (t := 74) gz ?_; intro gb461 hg w97 hbox hb; have GW461 := gN bz hg; have GE461 := gN bz hg; have NB449_461 := lN (g := gb449) (cs := #[.bool a2_0, .bool a2_1, .bool false, .bool a2_3, .bool a2_4, .int .i64 a2_5, .int .i64 a2_6, .int .i32 a2_7]) hg bk; have NB461_449 := rN (g := gb449) (cs := #[.bool a2_0, .bool a2_1, .bool false, .bool a2_3, .bool a2_4, .int .i64 a2_5, .int .i64 a2_6, .int .i32 a2_7]) hg bk; replace BK449 := kN (g := gb449) (cs := #[.bool a2_0, .bool a2_1, .bool false, .bool a2_3, .bool a2_4, .int .i64 a2_5, .int .i64 a2_6, .int .i32 a2_7]) hb bk; have BK461 := Aside0.mk hbox; replace HB := bN bz hb; clear hb hbox hg; have hnb98 := NB461_449.out; have hnc98 := NB449_461.out; obtain ⟨hcz99_0, hcz99_1, hcz99_2, hcz99_3, hcz99_4, hcz99_5, hcz99_6, hfz99_0, hfz99_1, hfz99_2, hfz99_3, hfz99_4, hfz99_5, hfz99_6⟩ := cz7 (W := w97) BK461) | (go_at_call 70; (with_reducible refine (floats_float_hex.calls kj11 a0 a1 t451 t452 ji29 false a2_7 t466 _ A95.out).mono ?_); rintro e w100 ⟨rfl, hb⟩; replace BK449 := kN (g := gb449) (cs := #[.bool a2_0, .bool a2_1, .bool false, .bool a2_3, .bool a2_4, .int .i64 a2_5, .int .i64 a2_6, .int .i32 a2_7]) hb bk; replace BK461 := kN (g := gb461) (cs := #[.int .u64 a0, .int .i64 a1, .int .u64 t451, .int .i64 t452, .int .i64 ji29, .bool false, .int .i32 a2_7]) hb bk; replace HB := bN bz hb; (try clear hb); (try clear hb2); (try clear hk); (try clear hi)))
               go_meet
               case rel => exact ⟨_, (t466), (a2_4), rz, H', ⟨by have := HJ5.out; have := HJ11.out; first | omega | exact Nat.le_refl _⟩, ⟨bk⟩, ⟨bz⟩⟩
              ·replace H := hN H c94
               exact absurd H (by simp)
      case rest =>
       clear HC23
       try clear c10
       try clear c10b0
       try clear c10b1
       try clear c11
       try clear c14
       try clear c15
       try clear c16
       try clear c18
       try clear c20
       try clear c20b0
       try clear c20b1
       try clear c24
       try clear c24b0
       try clear c24b1
       try clear c26
       try clear c26b0
       try clear c26b1
       try clear c30
       try clear c31
       try clear c38
       try clear c45
       try clear c52
       try clear c59
       try clear c66
       try clear c73
       try clear c80
       try clear c87
       try clear c94
       try clear hcz17_0 hcz17_1 hcz17_2 hcz17_3 hcz17_4 hcz17_5 hcz17_6 hcz17_7 hfz17_0 hfz17_1 hfz17_2 hfz17_3 hfz17_4 hfz17_5 hfz17_6 hfz17_7
       try clear hcz19_0 hcz19_1 hcz19_2 hcz19_3 hcz19_4 hcz19_5 hcz19_6 hcz19_7 hfz19_0 hfz19_1 hfz19_2 hfz19_3 hfz19_4 hfz19_5 hfz19_6 hfz19_7
       try clear hcz21_0 hcz21_1 hcz21_2 hcz21_3 hcz21_4 hcz21_5 hcz21_6 hcz21_7 hfz21_0 hfz21_1 hfz21_2 hfz21_3 hfz21_4 hfz21_5 hfz21_6 hfz21_7
       try clear hcz22_0 hcz22_1 hcz22_2 hcz22_3 hcz22_4 hcz22_5 hcz22_6 hcz22_7 hfz22_0 hfz22_1 hfz22_2 hfz22_3 hfz22_4 hfz22_5 hfz22_6 hfz22_7
       try clear hcz25_0 hcz25_1 hcz25_2 hcz25_3 hcz25_4 hcz25_5 hcz25_6 hcz25_7 hfz25_0 hfz25_1 hfz25_2 hfz25_3 hfz25_4 hfz25_5 hfz25_6 hfz25_7
       try clear hcz27_0 hcz27_1 hcz27_2 hcz27_3 hcz27_4 hcz27_5 hcz27_6 hcz27_7 hfz27_0 hfz27_1 hfz27_2 hfz27_3 hfz27_4 hfz27_5 hfz27_6 hfz27_7
       try clear hcz33_0 hcz33_1 hcz33_2 hcz33_3 hcz33_4 hcz33_5 hcz33_6 hcz33_7 hfz33_0 hfz33_1 hfz33_2 hfz33_3 hfz33_4 hfz33_5 hfz33_6 hfz33_7
       try clear hcz36_0 hcz36_1 hcz36_2 hcz36_3 hcz36_4 hcz36_5 hcz36_6 hfz36_0 hfz36_1 hfz36_2 hfz36_3 hfz36_4 hfz36_5 hfz36_6
       try clear hcz40_0 hcz40_1 hcz40_2 hcz40_3 hcz40_4 hcz40_5 hcz40_6 hcz40_7 hfz40_0 hfz40_1 hfz40_2 hfz40_3 hfz40_4 hfz40_5 hfz40_6 hfz40_7
       try clear hcz43_0 hcz43_1 hcz43_2 hcz43_3 hcz43_4 hcz43_5 hcz43_6 hfz43_0 hfz43_1 hfz43_2 hfz43_3 hfz43_4 hfz43_5 hfz43_6
       try clear hcz47_0 hcz47_1 hcz47_2 hcz47_3 hcz47_4 hcz47_5 hcz47_6 hcz47_7 hfz47_0 hfz47_1 hfz47_2 hfz47_3 hfz47_4 hfz47_5 hfz47_6 hfz47_7
       try clear hcz50_0 hcz50_1 hcz50_2 hcz50_3 hcz50_4 hcz50_5 hcz50_6 hfz50_0 hfz50_1 hfz50_2 hfz50_3 hfz50_4 hfz50_5 hfz50_6
       try clear hcz54_0 hcz54_1 hcz54_2 hcz54_3 hcz54_4 hcz54_5 hcz54_6 hcz54_7 hfz54_0 hfz54_1 hfz54_2 hfz54_3 hfz54_4 hfz54_5 hfz54_6 hfz54_7
       try clear hcz57_0 hcz57_1 hcz57_2 hcz57_3 hcz57_4 hcz57_5 hcz57_6 hfz57_0 hfz57_1 hfz57_2 hfz57_3 hfz57_4 hfz57_5 hfz57_6
       try clear hcz61_0 hcz61_1 hcz61_2 hcz61_3 hcz61_4 hcz61_5 hcz61_6 hcz61_7 hfz61_0 hfz61_1 hfz61_2 hfz61_3 hfz61_4 hfz61_5 hfz61_6 hfz61_7
       try clear hcz64_0 hcz64_1 hcz64_2 hcz64_3 hcz64_4 hcz64_5 hcz64_6 hfz64_0 hfz64_1 hfz64_2 hfz64_3 hfz64_4 hfz64_5 hfz64_6
       try clear hcz68_0 hcz68_1 hcz68_2 hcz68_3 hcz68_4 hcz68_5 hcz68_6 hcz68_7 hfz68_0 hfz68_1 hfz68_2 hfz68_3 hfz68_4 hfz68_5 hfz68_6 hfz68_7
       try clear hcz71_0 hcz71_1 hcz71_2 hcz71_3 hcz71_4 hcz71_5 hcz71_6 hfz71_0 hfz71_1 hfz71_2 hfz71_3 hfz71_4 hfz71_5 hfz71_6
       try clear hcz75_0 hcz75_1 hcz75_2 hcz75_3 hcz75_4 hcz75_5 hcz75_6 hcz75_7 hfz75_0 hfz75_1 hfz75_2 hfz75_3 hfz75_4 hfz75_5 hfz75_6 hfz75_7
       try clear hcz78_0 hcz78_1 hcz78_2 hcz78_3 hcz78_4 hcz78_5 hcz78_6 hfz78_0 hfz78_1 hfz78_2 hfz78_3 hfz78_4 hfz78_5 hfz78_6
       try clear hcz82_0 hcz82_1 hcz82_2 hcz82_3 hcz82_4 hcz82_5 hcz82_6 hcz82_7 hfz82_0 hfz82_1 hfz82_2 hfz82_3 hfz82_4 hfz82_5 hfz82_6 hfz82_7
       try clear hcz85_0 hcz85_1 hcz85_2 hcz85_3 hcz85_4 hcz85_5 hcz85_6 hfz85_0 hfz85_1 hfz85_2 hfz85_3 hfz85_4 hfz85_5 hfz85_6
       try clear hcz89_0 hcz89_1 hcz89_2 hcz89_3 hcz89_4 hcz89_5 hcz89_6 hcz89_7 hfz89_0 hfz89_1 hfz89_2 hfz89_3 hfz89_4 hfz89_5 hfz89_6 hfz89_7
       try clear hcz92_0 hcz92_1 hcz92_2 hcz92_3 hcz92_4 hcz92_5 hcz92_6 hfz92_0 hfz92_1 hfz92_2 hfz92_3 hfz92_4 hfz92_5 hfz92_6
       try clear hcz96_0 hcz96_1 hcz96_2 hcz96_3 hcz96_4 hcz96_5 hcz96_6 hcz96_7 hfz96_0 hfz96_1 hfz96_2 hfz96_3 hfz96_4 hfz96_5 hfz96_6 hfz96_7
       try clear hcz99_0 hcz99_1 hcz99_2 hcz99_3 hcz99_4 hcz99_5 hcz99_6 hfz99_0 hfz99_1 hfz99_2 hfz99_3 hfz99_4 hfz99_5 hfz99_6
       try clear hcz9_0 hcz9_1 hcz9_2 hcz9_3 hcz9_4 hcz9_5 hcz9_6 hcz9_7 hfz9_0 hfz9_1 hfz9_2 hfz9_3 hfz9_4 hfz9_5 hfz9_6 hfz9_7
       obtain ⟨kq, x14_22, x450004_22, rfl, HA, HJ22, BK449, HB⟩ := hcut
       cases kq with
       | zero => exact absurd HA.out (by simp [floats_Float.j3])
       | succ kj22 =>
        have H := HA.out
        clear HA
        simp only [floats_Float.j3] at H
        have HC101 := Aside0.mk H
        clear H
        go_upto_region 22 with (fail)
        go_cut [82] (fun v82 wc => ∃ (kq : Nat) (x82_100 : Bool), v82 = .bool x82_100 ∧ Aside0 (floats_Float.j4 kq x13_11 x14_22 x82_100 a2_0 a2_1 a2_2 a2_3 x450004_22 a2_5 a2_6 a2_7 = some (r1, r2)) ∧ Aside0 (kq ≤ kj22) ∧ Aside0 (wc.heap[gb449]? = some (.cells #[.bool a2_0, .bool a2_1, .bool a2_2, .bool a2_3, .bool x450004_22, .int .i64 a2_5, .int .i64 a2_6, .int .i32 a2_7] 26 (0, 0))) ∧ Aside0 (Below w.heap.size w wc))
        case first =>
         have H := HC101.out
         clear HC101
         by_cases c102 : x450004_22 = true
         ·subst c102
          replace H := hT H
          have H' := Aside0.mk H
          clear H
          obtain ⟨hcz103_0, hcz103_1, hcz103_2, hcz103_3, hcz103_4, hcz103_5, hcz103_6, hcz103_7, hfz103_0, hfz103_1, hfz103_2, hfz103_3, hfz103_4, hfz103_5, hfz103_6, hfz103_7⟩ := cz8 (W := wc) BK449
          go_wp2
          go_meet
          case rel => exact ⟨_, (!a2_1), rz, H', ⟨by have := HJ5.out; have := HJ11.out; have := HJ22.out; first | omega | exact Nat.le_refl _⟩, ⟨bk⟩, ⟨bz⟩⟩
         ·replace c102 := Bool.eq_false_iff.mpr c102
          subst c102
          replace H := hF H
          have H' := Aside0.mk H
          clear H
          obtain ⟨hcz104_0, hcz104_1, hcz104_2, hcz104_3, hcz104_4, hcz104_5, hcz104_6, hcz104_7, hfz104_0, hfz104_1, hfz104_2, hfz104_3, hfz104_4, hfz104_5, hfz104_6, hfz104_7⟩ := cz8 (W := wc) BK449
          go_wp2
          go_meet
          case rel => exact ⟨_, (false), rz, H', ⟨by have := HJ5.out; have := HJ11.out; have := HJ22.out; first | omega | exact Nat.le_refl _⟩, ⟨bk⟩, ⟨bz⟩⟩
        case rest =>
         clear HC101
         try clear c10
         try clear c10b0
         try clear c10b1
         try clear c11
         try clear c14
         try clear c15
         try clear c16
         try clear c18
         try clear c20
         try clear c20b0
         try clear c20b1
         try clear c24
         try clear c24b0
         try clear c24b1
         try clear c26
         try clear c26b0
         try clear c26b1
         try clear c30
         try clear c31
         try clear c38
         try clear c45
         try clear c52
         try clear c59
         try clear c66
         try clear c73
         try clear c80
         try clear c87
         try clear c94
         try clear c102
         try clear hcz103_0 hcz103_1 hcz103_2 hcz103_3 hcz103_4 hcz103_5 hcz103_6 hcz103_7 hfz103_0 hfz103_1 hfz103_2 hfz103_3 hfz103_4 hfz103_5 hfz103_6 hfz103_7
         try clear hcz104_0 hcz104_1 hcz104_2 hcz104_3 hcz104_4 hcz104_5 hcz104_6 hcz104_7 hfz104_0 hfz104_1 hfz104_2 hfz104_3 hfz104_4 hfz104_5 hfz104_6 hfz104_7
         try clear hcz17_0 hcz17_1 hcz17_2 hcz17_3 hcz17_4 hcz17_5 hcz17_6 hcz17_7 hfz17_0 hfz17_1 hfz17_2 hfz17_3 hfz17_4 hfz17_5 hfz17_6 hfz17_7
         try clear hcz19_0 hcz19_1 hcz19_2 hcz19_3 hcz19_4 hcz19_5 hcz19_6 hcz19_7 hfz19_0 hfz19_1 hfz19_2 hfz19_3 hfz19_4 hfz19_5 hfz19_6 hfz19_7
         try clear hcz21_0 hcz21_1 hcz21_2 hcz21_3 hcz21_4 hcz21_5 hcz21_6 hcz21_7 hfz21_0 hfz21_1 hfz21_2 hfz21_3 hfz21_4 hfz21_5 hfz21_6 hfz21_7
         try clear hcz22_0 hcz22_1 hcz22_2 hcz22_3 hcz22_4 hcz22_5 hcz22_6 hcz22_7 hfz22_0 hfz22_1 hfz22_2 hfz22_3 hfz22_4 hfz22_5 hfz22_6 hfz22_7
         try clear hcz25_0 hcz25_1 hcz25_2 hcz25_3 hcz25_4 hcz25_5 hcz25_6 hcz25_7 hfz25_0 hfz25_1 hfz25_2 hfz25_3 hfz25_4 hfz25_5 hfz25_6 hfz25_7
         try clear hcz27_0 hcz27_1 hcz27_2 hcz27_3 hcz27_4 hcz27_5 hcz27_6 hcz27_7 hfz27_0 hfz27_1 hfz27_2 hfz27_3 hfz27_4 hfz27_5 hfz27_6 hfz27_7
         try clear hcz33_0 hcz33_1 hcz33_2 hcz33_3 hcz33_4 hcz33_5 hcz33_6 hcz33_7 hfz33_0 hfz33_1 hfz33_2 hfz33_3 hfz33_4 hfz33_5 hfz33_6 hfz33_7
         try clear hcz36_0 hcz36_1 hcz36_2 hcz36_3 hcz36_4 hcz36_5 hcz36_6 hfz36_0 hfz36_1 hfz36_2 hfz36_3 hfz36_4 hfz36_5 hfz36_6
         try clear hcz40_0 hcz40_1 hcz40_2 hcz40_3 hcz40_4 hcz40_5 hcz40_6 hcz40_7 hfz40_0 hfz40_1 hfz40_2 hfz40_3 hfz40_4 hfz40_5 hfz40_6 hfz40_7
         try clear hcz43_0 hcz43_1 hcz43_2 hcz43_3 hcz43_4 hcz43_5 hcz43_6 hfz43_0 hfz43_1 hfz43_2 hfz43_3 hfz43_4 hfz43_5 hfz43_6
         try clear hcz47_0 hcz47_1 hcz47_2 hcz47_3 hcz47_4 hcz47_5 hcz47_6 hcz47_7 hfz47_0 hfz47_1 hfz47_2 hfz47_3 hfz47_4 hfz47_5 hfz47_6 hfz47_7
         try clear hcz50_0 hcz50_1 hcz50_2 hcz50_3 hcz50_4 hcz50_5 hcz50_6 hfz50_0 hfz50_1 hfz50_2 hfz50_3 hfz50_4 hfz50_5 hfz50_6
         try clear hcz54_0 hcz54_1 hcz54_2 hcz54_3 hcz54_4 hcz54_5 hcz54_6 hcz54_7 hfz54_0 hfz54_1 hfz54_2 hfz54_3 hfz54_4 hfz54_5 hfz54_6 hfz54_7
         try clear hcz57_0 hcz57_1 hcz57_2 hcz57_3 hcz57_4 hcz57_5 hcz57_6 hfz57_0 hfz57_1 hfz57_2 hfz57_3 hfz57_4 hfz57_5 hfz57_6
         try clear hcz61_0 hcz61_1 hcz61_2 hcz61_3 hcz61_4 hcz61_5 hcz61_6 hcz61_7 hfz61_0 hfz61_1 hfz61_2 hfz61_3 hfz61_4 hfz61_5 hfz61_6 hfz61_7
         try clear hcz64_0 hcz64_1 hcz64_2 hcz64_3 hcz64_4 hcz64_5 hcz64_6 hfz64_0 hfz64_1 hfz64_2 hfz64_3 hfz64_4 hfz64_5 hfz64_6
         try clear hcz68_0 hcz68_1 hcz68_2 hcz68_3 hcz68_4 hcz68_5 hcz68_6 hcz68_7 hfz68_0 hfz68_1 hfz68_2 hfz68_3 hfz68_4 hfz68_5 hfz68_6 hfz68_7
         try clear hcz71_0 hcz71_1 hcz71_2 hcz71_3 hcz71_4 hcz71_5 hcz71_6 hfz71_0 hfz71_1 hfz71_2 hfz71_3 hfz71_4 hfz71_5 hfz71_6
         try clear hcz75_0 hcz75_1 hcz75_2 hcz75_3 hcz75_4 hcz75_5 hcz75_6 hcz75_7 hfz75_0 hfz75_1 hfz75_2 hfz75_3 hfz75_4 hfz75_5 hfz75_6 hfz75_7
         try clear hcz78_0 hcz78_1 hcz78_2 hcz78_3 hcz78_4 hcz78_5 hcz78_6 hfz78_0 hfz78_1 hfz78_2 hfz78_3 hfz78_4 hfz78_5 hfz78_6
         try clear hcz82_0 hcz82_1 hcz82_2 hcz82_3 hcz82_4 hcz82_5 hcz82_6 hcz82_7 hfz82_0 hfz82_1 hfz82_2 hfz82_3 hfz82_4 hfz82_5 hfz82_6 hfz82_7
         try clear hcz85_0 hcz85_1 hcz85_2 hcz85_3 hcz85_4 hcz85_5 hcz85_6 hfz85_0 hfz85_1 hfz85_2 hfz85_3 hfz85_4 hfz85_5 hfz85_6
         try clear hcz89_0 hcz89_1 hcz89_2 hcz89_3 hcz89_4 hcz89_5 hcz89_6 hcz89_7 hfz89_0 hfz89_1 hfz89_2 hfz89_3 hfz89_4 hfz89_5 hfz89_6 hfz89_7
         try clear hcz92_0 hcz92_1 hcz92_2 hcz92_3 hcz92_4 hcz92_5 hcz92_6 hfz92_0 hfz92_1 hfz92_2 hfz92_3 hfz92_4 hfz92_5 hfz92_6
         try clear hcz96_0 hcz96_1 hcz96_2 hcz96_3 hcz96_4 hcz96_5 hcz96_6 hcz96_7 hfz96_0 hfz96_1 hfz96_2 hfz96_3 hfz96_4 hfz96_5 hfz96_6 hfz96_7
         try clear hcz99_0 hcz99_1 hcz99_2 hcz99_3 hcz99_4 hcz99_5 hcz99_6 hfz99_0 hfz99_1 hfz99_2 hfz99_3 hfz99_4 hfz99_5 hfz99_6
         try clear hcz9_0 hcz9_1 hcz9_2 hcz9_3 hcz9_4 hcz9_5 hcz9_6 hcz9_7 hfz9_0 hfz9_1 hfz9_2 hfz9_3 hfz9_4 hfz9_5 hfz9_6 hfz9_7
         obtain ⟨kq, x82_100, rfl, HA, HJ100, BK449, HB⟩ := hcut
         cases kq with
         | zero => exact absurd HA.out (by simp [floats_Float.j4])
         | succ kj100 =>
          have H := HA.out
          clear HA
          simp only [floats_Float.j4] at H
          by_cases c105 : x82_100 = true
          ·subst c105
           replace H := hT H
           obtain ⟨ji106, hji106⟩ : ∃ j_ : Int, (mn a2_5 1000) = j_ := ⟨_, rfl⟩
           (first | rw [hji106] at H | simp only [hji106] at H)
           have hji106_ : (if 1000 < a2_5 then 1000 else a2_5) = ji106 := hji106
           obtain ⟨ji107, hji107⟩ : ∃ j_ : Int, (mx 0 (ji106)) = j_ := ⟨_, rfl⟩
           (first | rw [hji107] at H | simp only [hji107] at H)
           have hji107_ : (if 0 < (ji106) then (ji106) else 0) = ji107 := hji107
           replace H := bs H
           obtain ⟨t467, A108, H⟩ := H
           by_cases c109 : t467.size + x14_22.size ≤ 9223372036854775807
           ·replace H := hE H c109
            have c109b0 := eq_true c109
            have c109b1 : decide (t467.size + x14_22.size ≤ 9223372036854775807) = true := decide_eq_true c109
            try have c109b2 : (9223372036854775807 < t467.size + x14_22.size) = False := eq_false (Nat.not_lt.2 c109)
            by_cases c110 : x13_11.size + (t467 ++ x14_22).size ≤ 9223372036854775807
            ·replace H := hE H c110
             have c110b0 := eq_true c110
             have c110b1 : decide (x13_11.size + (t467 ++ x14_22).size ≤ 9223372036854775807) = true := decide_eq_true c110
             try have c110b2 : (9223372036854775807 < x13_11.size + (t467 ++ x14_22).size) = False := eq_false (Nat.not_lt.2 c110)
             replace H := bs H
             obtain ⟨t468, A111, H⟩ := H
             simp only [Option.some.injEq, Prod.mk.injEq] at H
             obtain ⟨rfl, rfl⟩ := H
             obtain ⟨hcz112_0, hcz112_1, hcz112_2, hcz112_3, hcz112_4, hcz112_5, hcz112_6, hcz112_7, hfz112_0, hfz112_1, hfz112_2, hfz112_3, hfz112_4, hfz112_5, hfz112_6, hfz112_7⟩ := cz8 (W := wc) BK449
             have hbl_ : 0 ≤ ji107 := by rw [← hji107_]; split <;> omega
             have hbh_ : ji107 ≤ 1000 := by rw [← hji107_, ← hji106_]; repeat' split <;> omega
             have hs_ : x13_11.size + (t467.size + x14_22.size) ≤ 9223372036854775807 := by have h_ : x13_11.size + (t467 ++ x14_22).size ≤ 9223372036854775807 := of_decide_eq_true (by assumption); rw [ByteArray.size_append] at h_; exact h_
             have hw1_ : wrap64 (ji107 - (x13_11.size : Int)) = ji107 - (x13_11.size : Int) := by unfold wrap64; omega
             have hw2_ : wrap64 (ji107 - (x13_11.size : Int) - (x14_22.size : Int)) = ji107 - (x13_11.size : Int) - (x14_22.size : Int) := by unfold wrap64; omega
             have A_ := A108.out
             clear A108
             rw [hw1_, hw2_] at A_
             clear hw1_ hw2_
             have A108 := Aside0.mk A_
             clear A_
             go_wp2_with (first | ((with_reducible refine gate_callee (f := 27) rfl ?_); refine goesL_ (some 93) rfl rfl Tryz.func27 (by kernel_rfl) rfl #[.int .u8 48, .int .i64 (ji107 - (x13_11.size : Int) - (x14_22.size : Int))] rfl (by (try simp only [List.map_toArray, List.map_cons, List.map_nil]); first | done | (simp only [hji107]; rfl) | rfl | (simp only [List.length_drop, List.length_take]; rfl)) ?_; (with_reducible refine (buf_Fill.calls 48 (ji107 - (x13_11.size : Int) - (x14_22.size : Int)) t467 _ A108.out).mono ?_); rintro e w113 ⟨rfl, hb⟩; refine ⟨_, rfl, ?_⟩; replace BK449 := kN (g := gb449) (cs := #[.bool a2_0, .bool a2_1, .bool a2_2, .bool a2_3, .bool x450004_22, .int .i64 a2_5, .int .i64 a2_6, .int .i32 a2_7]) hb bk; replace HB := bN bz hb; (try clear hb); (try clear hb2); (try clear hk); (try clear hi); obtain ⟨hcz114_0, hcz114_1, hcz114_2, hcz114_3, hcz114_4, hcz114_5, hcz114_6, hcz114_7, hfz114_0, hfz114_1, hfz114_2, hfz114_3, hfz114_4, hfz114_5, hfz114_6, hfz114_7⟩ := cz8 (W := w113) BK449) | ((with_reducible refine gate_callee (f := 45) rfl ?_); refine goesL_ (some 101) rfl rfl Tryz.func45 (by kernel_rfl) rfl #[.string (x13_11 ++ (t467 ++ x14_22)), .agg #[.bool a2_0, .bool a2_1, .bool a2_2, .bool a2_3, .bool false, .int .i64 a2_5, .int .i64 a2_6, .int .i32 a2_7]] rfl lz ?_; (with_reducible refine (buf_Pad.calls (x13_11 ++ (t467 ++ x14_22)) a2_0 a2_1 a2_2 a2_3 false a2_5 a2_6 a2_7 t468 _ A111.out).mono ?_); rintro e w115 ⟨rfl, hb⟩; refine ⟨_, rfl, ?_⟩; replace BK449 := kN (g := gb449) (cs := #[.bool a2_0, .bool a2_1, .bool a2_2, .bool a2_3, .bool false, .int .i64 a2_5, .int .i64 a2_6, .int .i32 a2_7]) hb bk; replace HB := bN bz hb; (try clear hb); (try clear hb2); (try clear hk); (try clear hi)))
             go_ret2
             exact ⟨by first | rfl | (simp [errW_none, errW_some] <;> rfl) | (simp only [← hji106, ← hji107]; first | rfl | (simp [errW_none, errW_some] <;> rfl)) | (simp [*, errW_none, errW_some] <;> rfl), bz⟩
            ·replace H := hN H c110
             exact absurd H (by simp)
           ·replace H := hN H c109
            exact absurd H (by simp)
          ·replace c105 := Bool.eq_false_iff.mpr c105
           subst c105
           replace H := hF H
           by_cases c116 : x13_11.size + x14_22.size ≤ 9223372036854775807
           ·replace H := hE H c116
            have c116b0 := eq_true c116
            have c116b1 : decide (x13_11.size + x14_22.size ≤ 9223372036854775807) = true := decide_eq_true c116
            try have c116b2 : (9223372036854775807 < x13_11.size + x14_22.size) = False := eq_false (Nat.not_lt.2 c116)
            replace H := bs H
            obtain ⟨t469, A117, H⟩ := H
            simp only [Option.some.injEq, Prod.mk.injEq] at H
            obtain ⟨rfl, rfl⟩ := H
            obtain ⟨hcz118_0, hcz118_1, hcz118_2, hcz118_3, hcz118_4, hcz118_5, hcz118_6, hcz118_7, hfz118_0, hfz118_1, hfz118_2, hfz118_3, hfz118_4, hfz118_5, hfz118_6, hfz118_7⟩ := cz8 (W := wc) BK449
            go_wp2_with (first | ((with_reducible refine gate_callee (f := 45) rfl ?_); refine goesL_ (some 101) rfl rfl Tryz.func45 (by kernel_rfl) rfl #[.string (x13_11 ++ x14_22), .agg #[.bool a2_0, .bool a2_1, .bool a2_2, .bool a2_3, .bool false, .int .i64 a2_5, .int .i64 a2_6, .int .i32 a2_7]] rfl lz ?_; (with_reducible refine (buf_Pad.calls (x13_11 ++ x14_22) a2_0 a2_1 a2_2 a2_3 false a2_5 a2_6 a2_7 t469 _ A117.out).mono ?_); rintro e w119 ⟨rfl, hb⟩; refine ⟨_, rfl, ?_⟩; replace BK449 := kN (g := gb449) (cs := #[.bool a2_0, .bool a2_1, .bool a2_2, .bool a2_3, .bool false, .int .i64 a2_5, .int .i64 a2_6, .int .i32 a2_7]) hb bk; replace HB := bN bz hb; (try clear hb); (try clear hb2); (try clear hk); (try clear hi)))
            go_ret2
            exact ⟨ez, bz⟩
           ·replace H := hN H c116
            exact absurd H (by simp)
end Go.Proofs.YtecpgdfnamkfdaaGreatDoor.Fn
end
