/- The law FloatsHexBack: the walks through its functions and its plain law (part 3). Own texts and the kit's printed words for this seat, without what the law does not use: put together by merge.py (of this work). -/
import Derived.Test.YtecpgdfnamkfdaaGreatDoorMFloatsHexBack2
section
namespace Go.Proofs.YtecpgdfnamkfdaaGreatDoor.Fn
open Go.RowKit Go.Proofs.YtecpgdfnamkfdaaGreatDoorW.PrintWords Go.Proofs.YtecpgdfnamkfdaaGreatDoorW.PrintLast Go.Proofs.YtecpgdfnamkfdaaGreatDoorW.PrintMore
attribute [local go_sem] fnW_0 fnW_1 fnW_2 fnW_3 fnW_4 fnW_5 fnW_guard fnW_eql max2_int min2_int max_two min_two
set_option linter.unusedVariables false
set_option linter.unusedSimpArgs false
def short_span_in.f (k : Nat) (a0_0 : ByteArray) (a0_1 : Int) (a0_2 : ByteArray) (a0_3 : Int) (a0_4 : Bool) (a1_0 : ByteArray) (a1_1 : Int) : Option (Bool) := (short_cmp.f k a1_0 a1_1 a0_0 a0_1).bind fun t181 => ((short_cmp.f k a1_0 a1_1 a0_2 a0_3).bind fun t182 => (if t181 > 0 then (if t182 < 0 then (some true) else (if a0_4 = true then (if t181 ≥ 0 then (some (decide (t182 ≤ 0))) else (some false)) else (some false))) else (if a0_4 = true then (if t181 ≥ 0 then (some (decide (t182 ≤ 0))) else (some false)) else (some false))))
def short_span_in.T1 : Bool × List (List Nat × List Nat) := (true, [([], []), ([], []), ([1], [1]), ([0, 2], [0, 2]), ([], []), ([], []), ([5], [5]), ([4, 6, 3], [4, 6]), ([3, 7, 0, 1, 2, 3], [3]), ([7, 8, 0, 1, 2, 3, 4, 5, 6, 7, 8], [7])])
def short_span_in.B1 : List Nat := [0, 0, 2, 7, 0, 0, 32, 127, 255, 511]
theorem short_span_in.tab1 : rtab .any (opsOf Tryz.f56 1) = short_span_in.T1 := by kernel_rfl
theorem short_span_in.bits1 : waitsOk short_span_in.T1.2 short_span_in.B1 = true := by kernel_rfl
set_option maxHeartbeats 8000000 in
set_option maxRecDepth 100000 in
theorem short_span_in.calls (k : Nat) (a0_0 : ByteArray) (a0_1 : Int) (a0_2 : ByteArray) (a0_3 : Int) (a0_4 : Bool) (a1_0 : ByteArray) (a1_1 : Int) (r : Bool) (w : World) (h : short_span_in.f k a0_0 a0_1 a0_2 a0_3 a0_4 a1_0 a1_1 = some r) :
  Calls Tryz.prog 56 #[.agg #[.string a0_0, .int .i64 a0_1, .string a0_2, .int .i64 a0_3, .bool a0_4], .agg #[.string a1_0, .int .i64 a1_1]] w fun e w' => e = .returned (.bool r) ∧ Below w.heap.size w w' := by
 have hu88 := Tryz.underlying88
 have hu42 := Tryz.underlying42
 have HB := Aside0.mk (Below.refl w.heap.size w)
 have H : ((short_cmp.f k a1_0 a1_1 a0_0 a0_1).bind fun t181 => ((short_cmp.f k a1_0 a1_1 a0_2 a0_3).bind fun t182 => (if t181 > 0 then (if t182 < 0 then (some true) else (if a0_4 = true then (if t181 ≥ 0 then (some (decide (t182 ≤ 0))) else (some false)) else (some false))) else (if a0_4 = true then (if t181 ≥ 0 then (some (decide (t182 ≤ 0))) else (some false)) else (some false))))) = some r := h
 clear h
 replace H := bs H
 obtain ⟨t181, A3, H⟩ := H
 replace H := bs H
 obtain ⟨t182, A4, H⟩ := H
 by_cases c5 : t181 > 0
 ·replace H := hE H c5
  have c5b0 : decide (0 < t181) = true := decide_eq_true c5
  clear c5
  by_cases c6 : t182 < 0
  ·replace H := hE H c6
   have c6b0 := decide_eq_true c6
   clear c6
   obtain rfl := Option.some.inj H
   go_enter Tryz.func56, Tryz.ntmps56
   try go_wp2_with (first | ((with_reducible refine gate_dst (N := 2) rfl ?_); refine box_event rfl (N := 2) rfl (cs := #[.string a0_0, .int .i64 a0_1, .string a0_2, .int .i64 a0_3, .bool a0_4]) (t := 88) gz ?_; intro gb179 hg w7 hbox hb; have GW179 := gN bz hg; have GE179 := gN bz hg; have BK179 := Aside0.mk hbox; replace HB := bN bz hb; clear hb hbox hg) | ((with_reducible refine gate_dst (N := 3) rfl ?_); refine box_event rfl (N := 3) rfl (cs := #[.string a1_0, .int .i64 a1_1]) (t := 42) gz ?_; intro gb180 hg w8 hbox hb; have GW180 := gN bz hg; have GE180 := gN bz hg; have NB179_180 := lN (g := gb179) (cs := #[.string a0_0, .int .i64 a0_1, .string a0_2, .int .i64 a0_3, .bool a0_4]) hg bk; have NB180_179 := rN (g := gb179) (cs := #[.string a0_0, .int .i64 a0_1, .string a0_2, .int .i64 a0_3, .bool a0_4]) hg bk; replace BK179 := kN (g := gb179) (cs := #[.string a0_0, .int .i64 a0_1, .string a0_2, .int .i64 a0_3, .bool a0_4]) hb bk; have BK180 := Aside0.mk hbox; replace HB := bN bz hb; clear hb hbox hg))
   replace BK179 := Aside0.mk (blk_drew BK179.out)
   replace BK180 := Aside0.mk (blk_drew BK180.out)
   replace HB := Aside0.mk (below_drew1 HB.out)
   refine start_ (n := 10) (S := fun w' => w'.cell? ⟨gb180, 0, none⟩ = some (.string a1_0) ∧ w'.cell? ⟨gb180, 1, none⟩ = some (.int .i64 a1_1) ∧ w'.cell? ⟨gb179, 0, none⟩ = some (.string a0_0) ∧ w'.cell? ⟨gb179, 1, none⟩ = some (.int .i64 a0_1) ∧ w'.cell? ⟨gb179, 2, none⟩ = some (.string a0_2) ∧ w'.cell? ⟨gb179, 3, none⟩ = some (.int .i64 a0_3) ∧ w'.cell? ⟨gb179, 4, none⟩ = some (.bool a0_4)) (ds := []) #[false, false, false, false, false, false, false, false, false, false] (by kernel_rfl) rfl rfl ⟨(blk_cell BK180.out 0).trans rfl, (blk_cell BK180.out 1).trans rfl, (blk_cell BK179.out 0).trans rfl, (blk_cell BK179.out 1).trans rfl, (blk_cell BK179.out 2).trans rfl, (blk_cell BK179.out 3).trans rfl, (blk_cell BK179.out 4).trans rfl⟩ (fun hHeld => ?_); refine with_tabW short_span_in.tab1 short_span_in.bits1 (fun HT_ HW_ => ?_)
   generalize w8.drew = w9 at BK179 BK180 HB hHeld ⊢
   refine pure_ (i := 1) (N := some 8) (v := ?_) (a' := ?_) #[false, true, false, false, false, false, false, false, false, false] rfl rfl (any_of HT_.out (by kernel_rfl)) (fun _ _ _ h => h) (Or.inl ⟨by rfl, ?_⟩) ?_ ?_
   rotate_left
   ·intro w'
    go_simp
    with_reducible rfl
   rotate_left
   ·simp only [Act.put, List.setIfInBounds_toArray, List.set_cons_zero, List.set_cons_succ, i64_w, i32_w]
    rfl
   refine pure_ (i := 5) (N := some 12) (v := ?_) (a' := ?_) #[false, true, false, false, false, true, false, false, false, false] rfl rfl (any_of HT_.out (by kernel_rfl)) (fun _ _ _ h => h) (Or.inl ⟨by rfl, ?_⟩) ?_ ?_
   rotate_left
   ·intro w'
    go_simp
    with_reducible rfl
   rotate_left
   ·simp only [Act.put, List.setIfInBounds_toArray, List.set_cons_zero, List.set_cons_succ, i64_w, i32_w]
    rfl
   refine take_ (i := 0) (N := some 7) (v := ?_) (a' := ?_) #[true, true, false, false, false, true, false, false, false, false] rfl rfl (take_ofW HT_.out HW_.out (by kernel_rfl)) (fun _ _ _ h => h) (Or.inl ⟨by rfl, ?_⟩) hHeld ?_ ?_
   rotate_left
   ·rintro w' ⟨s0, s1, s2, s3, s4, s5, s6⟩
    go_simp
    with_reducible rfl
   rotate_left
   ·simp only [Act.put, List.setIfInBounds_toArray, List.set_cons_zero, List.set_cons_succ, i64_w, i32_w]
    rfl
   refine take_ (i := 2) (N := some 9) (v := ?_) (a' := ?_) #[true, true, true, false, false, true, false, false, false, false] rfl rfl (take_ofW HT_.out HW_.out (by kernel_rfl)) (fun _ _ _ h => h) (Or.inl ⟨by rfl, ?_⟩) hHeld ?_ ?_
   rotate_left
   ·rintro w' ⟨s0, s1, s2, s3, s4, s5, s6⟩
    go_simp
    with_reducible rfl
   rotate_left
   ·simp only [Act.put, List.setIfInBounds_toArray, List.set_cons_zero, List.set_cons_succ, i64_w, i32_w]
    rfl
   refine take_ (i := 4) (N := some 11) (v := ?_) (a' := ?_) #[true, true, true, false, true, true, false, false, false, false] rfl rfl (take_ofW HT_.out HW_.out (by kernel_rfl)) (fun _ _ _ h => h) (Or.inl ⟨by rfl, ?_⟩) hHeld ?_ ?_
   rotate_left
   ·rintro w' ⟨s0, s1, s2, s3, s4, s5, s6⟩
    go_simp
    with_reducible rfl
   rotate_left
   ·simp only [Act.put, List.setIfInBounds_toArray, List.set_cons_zero, List.set_cons_succ, i64_w, i32_w]
    rfl
   refine take_ (i := 6) (N := some 13) (v := ?_) (a' := ?_) #[true, true, true, false, true, true, true, false, false, false] rfl rfl (take_ofW HT_.out HW_.out (by kernel_rfl)) (fun _ _ _ h => h) (Or.inl ⟨by rfl, ?_⟩) hHeld ?_ ?_
   rotate_left
   ·rintro w' ⟨s0, s1, s2, s3, s4, s5, s6⟩
    go_simp
    with_reducible rfl
   rotate_left
   ·simp only [Act.put, List.setIfInBounds_toArray, List.set_cons_zero, List.set_cons_succ, i64_w, i32_w]
    rfl
   refine one_ (i := 3) (N := some 10) #[true, true, true, true, true, true, true, false, false, false] rfl rfl (one_of HT_.out (by kernel_rfl)) (by decide) (fun K hK => ?_)
   refine goes_ Tryz.func53 (by kernel_rfl) rfl #[.agg #[.string a1_0, .int .i64 a1_1], .agg #[.string a0_0, .int .i64 a0_1]] (by rfl) rfl rfl lz ?_
   with_reducible refine (short_cmp.calls k a1_0 a1_1 a0_0 a0_1 t181 _ A3.out).mono ?_
   rintro e w10 ⟨rfl, hb⟩
   refine ⟨_, rfl, ?_⟩
   replace BK179 := Aside0.mk (blk_below (g := gb179) (o := .cells #[.string a0_0, .int .i64 a0_1, .string a0_2, .int .i64 a0_3, .bool a0_4] 88 (0, 0)) bk hb)
   replace BK180 := Aside0.mk (blk_below (g := gb180) (o := .cells #[.string a1_0, .int .i64 a1_1] 42 (0, 0)) bk hb)
   replace HB := Aside0.mk (below_step bz hb)
   (try clear hb)
   (try clear hb2)
   (try clear hk)
   (try clear hi)
   refine hK.out _ _ ⟨(blk_cell BK180.out 0).trans rfl, (blk_cell BK180.out 1).trans rfl, (blk_cell BK179.out 0).trans rfl, (blk_cell BK179.out 1).trans rfl, (blk_cell BK179.out 2).trans rfl, (blk_cell BK179.out 3).trans rfl, (blk_cell BK179.out 4).trans rfl⟩ (fun hHeld => ?_)
   clear hK K
   refine norm_ (a' := ?_) ?_ ?_
   rotate_left
   ·show Act.put _ (some 10) _ = _
    simp only [Act.put, List.setIfInBounds_toArray, List.set_cons_zero, List.set_cons_succ, i64_w, i32_w]
    rfl
   refine one_ (i := 7) (N := some 14) #[true, true, true, true, true, true, true, true, false, false] rfl rfl (one_of HT_.out (by kernel_rfl)) (by decide) (fun K hK => ?_)
   refine goes_ Tryz.func53 (by kernel_rfl) rfl #[.agg #[.string a1_0, .int .i64 a1_1], .agg #[.string a0_2, .int .i64 a0_3]] (by rfl) rfl rfl lz ?_
   with_reducible refine (short_cmp.calls k a1_0 a1_1 a0_2 a0_3 t182 _ A4.out).mono ?_
   rintro e w11 ⟨rfl, hb⟩
   refine ⟨_, rfl, ?_⟩
   replace BK179 := Aside0.mk (blk_below (g := gb179) (o := .cells #[.string a0_0, .int .i64 a0_1, .string a0_2, .int .i64 a0_3, .bool a0_4] 88 (0, 0)) bk hb)
   replace BK180 := Aside0.mk (blk_below (g := gb180) (o := .cells #[.string a1_0, .int .i64 a1_1] 42 (0, 0)) bk hb)
   replace HB := Aside0.mk (below_step bz hb)
   (try clear hb)
   (try clear hb2)
   (try clear hk)
   (try clear hi)
   refine hK.out _ _ ⟨(blk_cell BK180.out 0).trans rfl, (blk_cell BK180.out 1).trans rfl, (blk_cell BK179.out 0).trans rfl, (blk_cell BK179.out 1).trans rfl, (blk_cell BK179.out 2).trans rfl, (blk_cell BK179.out 3).trans rfl, (blk_cell BK179.out 4).trans rfl⟩ (fun hHeld => ?_)
   clear hK K
   refine norm_ (a' := ?_) ?_ ?_
   rotate_left
   ·show Act.put _ (some 14) _ = _
    simp only [Act.put, List.setIfInBounds_toArray, List.set_cons_zero, List.set_cons_succ, i64_w, i32_w]
    rfl
   refine pure_ (i := 8) (N := some 5) (v := ?_) (a' := ?_) #[true, true, true, true, true, true, true, true, true, false] rfl rfl (any_of HT_.out (by kernel_rfl)) (fun _ _ _ h => h) (Or.inl ⟨by rfl, ?_⟩) ?_ ?_
   rotate_left
   ·intro w'
    go_simp
    with_reducible rfl
   rotate_left
   ·simp only [Act.put, List.setIfInBounds_toArray, List.set_cons_zero, List.set_cons_succ, i64_w, i32_w]
    rfl
   refine pure_ (i := 9) (N := some 6) (v := ?_) (a' := ?_) #[true, true, true, true, true, true, true, true, true, true] rfl rfl (any_of HT_.out (by kernel_rfl)) (fun _ _ _ h => h) (Or.inl ⟨by rfl, ?_⟩) ?_ ?_
   rotate_left
   ·intro w'
    go_simp
    with_reducible rfl
   rotate_left
   ·simp only [Act.put, List.setIfInBounds_toArray, List.set_cons_zero, List.set_cons_succ, i64_w, i32_w]
    rfl
   refine done_ (done_of HT_.out (by kernel_rfl)) ?_
   try go_wp2
   go_ret
   exact ⟨ez, bz⟩
  ·replace H := hN H c6
   have c6b0 := decide_eq_false c6
   clear c6
   by_cases c12 : a0_4 = true
   ·subst c12
    replace H := hT H
    by_cases c13 : t181 ≥ 0
    ·replace H := hE H c13
     have c13b0 : decide (0 ≤ t181) = true := decide_eq_true c13
     clear c13
     obtain rfl := Option.some.inj H
     go_enter Tryz.func56, Tryz.ntmps56
     try go_wp2_with (first | ((with_reducible refine gate_dst (N := 2) rfl ?_); refine box_event rfl (N := 2) rfl (cs := #[.string a0_0, .int .i64 a0_1, .string a0_2, .int .i64 a0_3, .bool true]) (t := 88) gz ?_; intro gb179 hg w14 hbox hb; have GW179 := gN bz hg; have GE179 := gN bz hg; have BK179 := Aside0.mk hbox; replace HB := bN bz hb; clear hb hbox hg) | ((with_reducible refine gate_dst (N := 3) rfl ?_); refine box_event rfl (N := 3) rfl (cs := #[.string a1_0, .int .i64 a1_1]) (t := 42) gz ?_; intro gb180 hg w15 hbox hb; have GW180 := gN bz hg; have GE180 := gN bz hg; have NB179_180 := lN (g := gb179) (cs := #[.string a0_0, .int .i64 a0_1, .string a0_2, .int .i64 a0_3, .bool true]) hg bk; have NB180_179 := rN (g := gb179) (cs := #[.string a0_0, .int .i64 a0_1, .string a0_2, .int .i64 a0_3, .bool true]) hg bk; replace BK179 := kN (g := gb179) (cs := #[.string a0_0, .int .i64 a0_1, .string a0_2, .int .i64 a0_3, .bool true]) hb bk; have BK180 := Aside0.mk hbox; replace HB := bN bz hb; clear hb hbox hg))
     replace BK179 := Aside0.mk (blk_drew BK179.out)
     replace BK180 := Aside0.mk (blk_drew BK180.out)
     replace HB := Aside0.mk (below_drew1 HB.out)
     refine start_ (n := 10) (S := fun w' => w'.cell? ⟨gb180, 0, none⟩ = some (.string a1_0) ∧ w'.cell? ⟨gb180, 1, none⟩ = some (.int .i64 a1_1) ∧ w'.cell? ⟨gb179, 0, none⟩ = some (.string a0_0) ∧ w'.cell? ⟨gb179, 1, none⟩ = some (.int .i64 a0_1) ∧ w'.cell? ⟨gb179, 2, none⟩ = some (.string a0_2) ∧ w'.cell? ⟨gb179, 3, none⟩ = some (.int .i64 a0_3) ∧ w'.cell? ⟨gb179, 4, none⟩ = some (.bool true)) (ds := []) #[false, false, false, false, false, false, false, false, false, false] (by kernel_rfl) rfl rfl ⟨(blk_cell BK180.out 0).trans rfl, (blk_cell BK180.out 1).trans rfl, (blk_cell BK179.out 0).trans rfl, (blk_cell BK179.out 1).trans rfl, (blk_cell BK179.out 2).trans rfl, (blk_cell BK179.out 3).trans rfl, (blk_cell BK179.out 4).trans rfl⟩ (fun hHeld => ?_); refine with_tabW short_span_in.tab1 short_span_in.bits1 (fun HT_ HW_ => ?_)
     generalize w15.drew = w16 at BK179 BK180 HB hHeld ⊢
     refine pure_ (i := 1) (N := some 8) (v := ?_) (a' := ?_) #[false, true, false, false, false, false, false, false, false, false] rfl rfl (any_of HT_.out (by kernel_rfl)) (fun _ _ _ h => h) (Or.inl ⟨by rfl, ?_⟩) ?_ ?_
     rotate_left
     ·intro w'
      go_simp
      with_reducible rfl
     rotate_left
     ·simp only [Act.put, List.setIfInBounds_toArray, List.set_cons_zero, List.set_cons_succ, i64_w, i32_w]
      rfl
     refine pure_ (i := 5) (N := some 12) (v := ?_) (a' := ?_) #[false, true, false, false, false, true, false, false, false, false] rfl rfl (any_of HT_.out (by kernel_rfl)) (fun _ _ _ h => h) (Or.inl ⟨by rfl, ?_⟩) ?_ ?_
     rotate_left
     ·intro w'
      go_simp
      with_reducible rfl
     rotate_left
     ·simp only [Act.put, List.setIfInBounds_toArray, List.set_cons_zero, List.set_cons_succ, i64_w, i32_w]
      rfl
     refine take_ (i := 0) (N := some 7) (v := ?_) (a' := ?_) #[true, true, false, false, false, true, false, false, false, false] rfl rfl (take_ofW HT_.out HW_.out (by kernel_rfl)) (fun _ _ _ h => h) (Or.inl ⟨by rfl, ?_⟩) hHeld ?_ ?_
     rotate_left
     ·rintro w' ⟨s0, s1, s2, s3, s4, s5, s6⟩
      go_simp
      with_reducible rfl
     rotate_left
     ·simp only [Act.put, List.setIfInBounds_toArray, List.set_cons_zero, List.set_cons_succ, i64_w, i32_w]
      rfl
     refine take_ (i := 2) (N := some 9) (v := ?_) (a' := ?_) #[true, true, true, false, false, true, false, false, false, false] rfl rfl (take_ofW HT_.out HW_.out (by kernel_rfl)) (fun _ _ _ h => h) (Or.inl ⟨by rfl, ?_⟩) hHeld ?_ ?_
     rotate_left
     ·rintro w' ⟨s0, s1, s2, s3, s4, s5, s6⟩
      go_simp
      with_reducible rfl
     rotate_left
     ·simp only [Act.put, List.setIfInBounds_toArray, List.set_cons_zero, List.set_cons_succ, i64_w, i32_w]
      rfl
     refine take_ (i := 4) (N := some 11) (v := ?_) (a' := ?_) #[true, true, true, false, true, true, false, false, false, false] rfl rfl (take_ofW HT_.out HW_.out (by kernel_rfl)) (fun _ _ _ h => h) (Or.inl ⟨by rfl, ?_⟩) hHeld ?_ ?_
     rotate_left
     ·rintro w' ⟨s0, s1, s2, s3, s4, s5, s6⟩
      go_simp
      with_reducible rfl
     rotate_left
     ·simp only [Act.put, List.setIfInBounds_toArray, List.set_cons_zero, List.set_cons_succ, i64_w, i32_w]
      rfl
     refine take_ (i := 6) (N := some 13) (v := ?_) (a' := ?_) #[true, true, true, false, true, true, true, false, false, false] rfl rfl (take_ofW HT_.out HW_.out (by kernel_rfl)) (fun _ _ _ h => h) (Or.inl ⟨by rfl, ?_⟩) hHeld ?_ ?_
     rotate_left
     ·rintro w' ⟨s0, s1, s2, s3, s4, s5, s6⟩
      go_simp
      with_reducible rfl
     rotate_left
     ·simp only [Act.put, List.setIfInBounds_toArray, List.set_cons_zero, List.set_cons_succ, i64_w, i32_w]
      rfl
     refine one_ (i := 3) (N := some 10) #[true, true, true, true, true, true, true, false, false, false] rfl rfl (one_of HT_.out (by kernel_rfl)) (by decide) (fun K hK => ?_)
     refine goes_ Tryz.func53 (by kernel_rfl) rfl #[.agg #[.string a1_0, .int .i64 a1_1], .agg #[.string a0_0, .int .i64 a0_1]] (by rfl) rfl rfl lz ?_
     with_reducible refine (short_cmp.calls k a1_0 a1_1 a0_0 a0_1 t181 _ A3.out).mono ?_
     rintro e w17 ⟨rfl, hb⟩
     refine ⟨_, rfl, ?_⟩
     replace BK179 := Aside0.mk (blk_below (g := gb179) (o := .cells #[.string a0_0, .int .i64 a0_1, .string a0_2, .int .i64 a0_3, .bool true] 88 (0, 0)) bk hb)
     replace BK180 := Aside0.mk (blk_below (g := gb180) (o := .cells #[.string a1_0, .int .i64 a1_1] 42 (0, 0)) bk hb)
     replace HB := Aside0.mk (below_step bz hb)
     (try clear hb)
     (try clear hb2)
     (try clear hk)
     (try clear hi)
     refine hK.out _ _ ⟨(blk_cell BK180.out 0).trans rfl, (blk_cell BK180.out 1).trans rfl, (blk_cell BK179.out 0).trans rfl, (blk_cell BK179.out 1).trans rfl, (blk_cell BK179.out 2).trans rfl, (blk_cell BK179.out 3).trans rfl, (blk_cell BK179.out 4).trans rfl⟩ (fun hHeld => ?_)
     clear hK K
     refine norm_ (a' := ?_) ?_ ?_
     rotate_left
     ·show Act.put _ (some 10) _ = _
      simp only [Act.put, List.setIfInBounds_toArray, List.set_cons_zero, List.set_cons_succ, i64_w, i32_w]
      rfl
     refine one_ (i := 7) (N := some 14) #[true, true, true, true, true, true, true, true, false, false] rfl rfl (one_of HT_.out (by kernel_rfl)) (by decide) (fun K hK => ?_)
     refine goes_ Tryz.func53 (by kernel_rfl) rfl #[.agg #[.string a1_0, .int .i64 a1_1], .agg #[.string a0_2, .int .i64 a0_3]] (by rfl) rfl rfl lz ?_
     with_reducible refine (short_cmp.calls k a1_0 a1_1 a0_2 a0_3 t182 _ A4.out).mono ?_
     rintro e w18 ⟨rfl, hb⟩
     refine ⟨_, rfl, ?_⟩
     replace BK179 := Aside0.mk (blk_below (g := gb179) (o := .cells #[.string a0_0, .int .i64 a0_1, .string a0_2, .int .i64 a0_3, .bool true] 88 (0, 0)) bk hb)
     replace BK180 := Aside0.mk (blk_below (g := gb180) (o := .cells #[.string a1_0, .int .i64 a1_1] 42 (0, 0)) bk hb)
     replace HB := Aside0.mk (below_step bz hb)
     (try clear hb)
     (try clear hb2)
     (try clear hk)
     (try clear hi)
     refine hK.out _ _ ⟨(blk_cell BK180.out 0).trans rfl, (blk_cell BK180.out 1).trans rfl, (blk_cell BK179.out 0).trans rfl, (blk_cell BK179.out 1).trans rfl, (blk_cell BK179.out 2).trans rfl, (blk_cell BK179.out 3).trans rfl, (blk_cell BK179.out 4).trans rfl⟩ (fun hHeld => ?_)
     clear hK K
     refine norm_ (a' := ?_) ?_ ?_
     rotate_left
     ·show Act.put _ (some 14) _ = _
      simp only [Act.put, List.setIfInBounds_toArray, List.set_cons_zero, List.set_cons_succ, i64_w, i32_w]
      rfl
     refine pure_ (i := 8) (N := some 5) (v := ?_) (a' := ?_) #[true, true, true, true, true, true, true, true, true, false] rfl rfl (any_of HT_.out (by kernel_rfl)) (fun _ _ _ h => h) (Or.inl ⟨by rfl, ?_⟩) ?_ ?_
     rotate_left
     ·intro w'
      go_simp
      with_reducible rfl
     rotate_left
     ·simp only [Act.put, List.setIfInBounds_toArray, List.set_cons_zero, List.set_cons_succ, i64_w, i32_w]
      rfl
     refine pure_ (i := 9) (N := some 6) (v := ?_) (a' := ?_) #[true, true, true, true, true, true, true, true, true, true] rfl rfl (any_of HT_.out (by kernel_rfl)) (fun _ _ _ h => h) (Or.inl ⟨by rfl, ?_⟩) ?_ ?_
     rotate_left
     ·intro w'
      go_simp
      with_reducible rfl
     rotate_left
     ·simp only [Act.put, List.setIfInBounds_toArray, List.set_cons_zero, List.set_cons_succ, i64_w, i32_w]
      rfl
     refine done_ (done_of HT_.out (by kernel_rfl)) ?_
     have hnb19 := NB179_180.out
     have hnc19 := NB180_179.out
     obtain ⟨hcz20_0, hcz20_1, hcz20_2, hcz20_3, hcz20_4, hfz20_0, hfz20_1, hfz20_2, hfz20_3, hfz20_4⟩ := cz5 (W := w18) BK179
     try go_wp2
     go_ret
     exact ⟨ez, bz⟩
    ·replace H := hN H c13
     have c13b0 : decide (0 ≤ t181) = false := decide_eq_false c13
     clear c13
     obtain rfl := Option.some.inj H
     go_enter Tryz.func56, Tryz.ntmps56
     try go_wp2_with (first | ((with_reducible refine gate_dst (N := 2) rfl ?_); refine box_event rfl (N := 2) rfl (cs := #[.string a0_0, .int .i64 a0_1, .string a0_2, .int .i64 a0_3, .bool true]) (t := 88) gz ?_; intro gb179 hg w21 hbox hb; have GW179 := gN bz hg; have GE179 := gN bz hg; have BK179 := Aside0.mk hbox; replace HB := bN bz hb; clear hb hbox hg) | ((with_reducible refine gate_dst (N := 3) rfl ?_); refine box_event rfl (N := 3) rfl (cs := #[.string a1_0, .int .i64 a1_1]) (t := 42) gz ?_; intro gb180 hg w22 hbox hb; have GW180 := gN bz hg; have GE180 := gN bz hg; have NB179_180 := lN (g := gb179) (cs := #[.string a0_0, .int .i64 a0_1, .string a0_2, .int .i64 a0_3, .bool true]) hg bk; have NB180_179 := rN (g := gb179) (cs := #[.string a0_0, .int .i64 a0_1, .string a0_2, .int .i64 a0_3, .bool true]) hg bk; replace BK179 := kN (g := gb179) (cs := #[.string a0_0, .int .i64 a0_1, .string a0_2, .int .i64 a0_3, .bool true]) hb bk; have BK180 := Aside0.mk hbox; replace HB := bN bz hb; clear hb hbox hg))
     replace BK179 := Aside0.mk (blk_drew BK179.out)
     replace BK180 := Aside0.mk (blk_drew BK180.out)
     replace HB := Aside0.mk (below_drew1 HB.out)
     refine start_ (n := 10) (S := fun w' => w'.cell? ⟨gb180, 0, none⟩ = some (.string a1_0) ∧ w'.cell? ⟨gb180, 1, none⟩ = some (.int .i64 a1_1) ∧ w'.cell? ⟨gb179, 0, none⟩ = some (.string a0_0) ∧ w'.cell? ⟨gb179, 1, none⟩ = some (.int .i64 a0_1) ∧ w'.cell? ⟨gb179, 2, none⟩ = some (.string a0_2) ∧ w'.cell? ⟨gb179, 3, none⟩ = some (.int .i64 a0_3) ∧ w'.cell? ⟨gb179, 4, none⟩ = some (.bool true)) (ds := []) #[false, false, false, false, false, false, false, false, false, false] (by kernel_rfl) rfl rfl ⟨(blk_cell BK180.out 0).trans rfl, (blk_cell BK180.out 1).trans rfl, (blk_cell BK179.out 0).trans rfl, (blk_cell BK179.out 1).trans rfl, (blk_cell BK179.out 2).trans rfl, (blk_cell BK179.out 3).trans rfl, (blk_cell BK179.out 4).trans rfl⟩ (fun hHeld => ?_); refine with_tabW short_span_in.tab1 short_span_in.bits1 (fun HT_ HW_ => ?_)
     generalize w22.drew = w23 at BK179 BK180 HB hHeld ⊢
     refine pure_ (i := 1) (N := some 8) (v := ?_) (a' := ?_) #[false, true, false, false, false, false, false, false, false, false] rfl rfl (any_of HT_.out (by kernel_rfl)) (fun _ _ _ h => h) (Or.inl ⟨by rfl, ?_⟩) ?_ ?_
     rotate_left
     ·intro w'
      go_simp
      with_reducible rfl
     rotate_left
     ·simp only [Act.put, List.setIfInBounds_toArray, List.set_cons_zero, List.set_cons_succ, i64_w, i32_w]
      rfl
     refine pure_ (i := 5) (N := some 12) (v := ?_) (a' := ?_) #[false, true, false, false, false, true, false, false, false, false] rfl rfl (any_of HT_.out (by kernel_rfl)) (fun _ _ _ h => h) (Or.inl ⟨by rfl, ?_⟩) ?_ ?_
     rotate_left
     ·intro w'
      go_simp
      with_reducible rfl
     rotate_left
     ·simp only [Act.put, List.setIfInBounds_toArray, List.set_cons_zero, List.set_cons_succ, i64_w, i32_w]
      rfl
     refine take_ (i := 0) (N := some 7) (v := ?_) (a' := ?_) #[true, true, false, false, false, true, false, false, false, false] rfl rfl (take_ofW HT_.out HW_.out (by kernel_rfl)) (fun _ _ _ h => h) (Or.inl ⟨by rfl, ?_⟩) hHeld ?_ ?_
     rotate_left
     ·rintro w' ⟨s0, s1, s2, s3, s4, s5, s6⟩
      go_simp
      with_reducible rfl
     rotate_left
     ·simp only [Act.put, List.setIfInBounds_toArray, List.set_cons_zero, List.set_cons_succ, i64_w, i32_w]
      rfl
     refine take_ (i := 2) (N := some 9) (v := ?_) (a' := ?_) #[true, true, true, false, false, true, false, false, false, false] rfl rfl (take_ofW HT_.out HW_.out (by kernel_rfl)) (fun _ _ _ h => h) (Or.inl ⟨by rfl, ?_⟩) hHeld ?_ ?_
     rotate_left
     ·rintro w' ⟨s0, s1, s2, s3, s4, s5, s6⟩
      go_simp
      with_reducible rfl
     rotate_left
     ·simp only [Act.put, List.setIfInBounds_toArray, List.set_cons_zero, List.set_cons_succ, i64_w, i32_w]
      rfl
     refine take_ (i := 4) (N := some 11) (v := ?_) (a' := ?_) #[true, true, true, false, true, true, false, false, false, false] rfl rfl (take_ofW HT_.out HW_.out (by kernel_rfl)) (fun _ _ _ h => h) (Or.inl ⟨by rfl, ?_⟩) hHeld ?_ ?_
     rotate_left
     ·rintro w' ⟨s0, s1, s2, s3, s4, s5, s6⟩
      go_simp
      with_reducible rfl
     rotate_left
     ·simp only [Act.put, List.setIfInBounds_toArray, List.set_cons_zero, List.set_cons_succ, i64_w, i32_w]
      rfl
     refine take_ (i := 6) (N := some 13) (v := ?_) (a' := ?_) #[true, true, true, false, true, true, true, false, false, false] rfl rfl (take_ofW HT_.out HW_.out (by kernel_rfl)) (fun _ _ _ h => h) (Or.inl ⟨by rfl, ?_⟩) hHeld ?_ ?_
     rotate_left
     ·rintro w' ⟨s0, s1, s2, s3, s4, s5, s6⟩
      go_simp
      with_reducible rfl
     rotate_left
     ·simp only [Act.put, List.setIfInBounds_toArray, List.set_cons_zero, List.set_cons_succ, i64_w, i32_w]
      rfl
     refine one_ (i := 3) (N := some 10) #[true, true, true, true, true, true, true, false, false, false] rfl rfl (one_of HT_.out (by kernel_rfl)) (by decide) (fun K hK => ?_)
     refine goes_ Tryz.func53 (by kernel_rfl) rfl #[.agg #[.string a1_0, .int .i64 a1_1], .agg #[.string a0_0, .int .i64 a0_1]] (by rfl) rfl rfl lz ?_
     with_reducible refine (short_cmp.calls k a1_0 a1_1 a0_0 a0_1 t181 _ A3.out).mono ?_
     rintro e w24 ⟨rfl, hb⟩
     refine ⟨_, rfl, ?_⟩
     replace BK179 := Aside0.mk (blk_below (g := gb179) (o := .cells #[.string a0_0, .int .i64 a0_1, .string a0_2, .int .i64 a0_3, .bool true] 88 (0, 0)) bk hb)
     replace BK180 := Aside0.mk (blk_below (g := gb180) (o := .cells #[.string a1_0, .int .i64 a1_1] 42 (0, 0)) bk hb)
     replace HB := Aside0.mk (below_step bz hb)
     (try clear hb)
     (try clear hb2)
     (try clear hk)
     (try clear hi)
     refine hK.out _ _ ⟨(blk_cell BK180.out 0).trans rfl, (blk_cell BK180.out 1).trans rfl, (blk_cell BK179.out 0).trans rfl, (blk_cell BK179.out 1).trans rfl, (blk_cell BK179.out 2).trans rfl, (blk_cell BK179.out 3).trans rfl, (blk_cell BK179.out 4).trans rfl⟩ (fun hHeld => ?_)
     clear hK K
     refine norm_ (a' := ?_) ?_ ?_
     rotate_left
     ·show Act.put _ (some 10) _ = _
      simp only [Act.put, List.setIfInBounds_toArray, List.set_cons_zero, List.set_cons_succ, i64_w, i32_w]
      rfl
     refine one_ (i := 7) (N := some 14) #[true, true, true, true, true, true, true, true, false, false] rfl rfl (one_of HT_.out (by kernel_rfl)) (by decide) (fun K hK => ?_)
     refine goes_ Tryz.func53 (by kernel_rfl) rfl #[.agg #[.string a1_0, .int .i64 a1_1], .agg #[.string a0_2, .int .i64 a0_3]] (by rfl) rfl rfl lz ?_
     with_reducible refine (short_cmp.calls k a1_0 a1_1 a0_2 a0_3 t182 _ A4.out).mono ?_
     rintro e w25 ⟨rfl, hb⟩
     refine ⟨_, rfl, ?_⟩
     replace BK179 := Aside0.mk (blk_below (g := gb179) (o := .cells #[.string a0_0, .int .i64 a0_1, .string a0_2, .int .i64 a0_3, .bool true] 88 (0, 0)) bk hb)
     replace BK180 := Aside0.mk (blk_below (g := gb180) (o := .cells #[.string a1_0, .int .i64 a1_1] 42 (0, 0)) bk hb)
     replace HB := Aside0.mk (below_step bz hb)
     (try clear hb)
     (try clear hb2)
     (try clear hk)
     (try clear hi)
     refine hK.out _ _ ⟨(blk_cell BK180.out 0).trans rfl, (blk_cell BK180.out 1).trans rfl, (blk_cell BK179.out 0).trans rfl, (blk_cell BK179.out 1).trans rfl, (blk_cell BK179.out 2).trans rfl, (blk_cell BK179.out 3).trans rfl, (blk_cell BK179.out 4).trans rfl⟩ (fun hHeld => ?_)
     clear hK K
     refine norm_ (a' := ?_) ?_ ?_
     rotate_left
     ·show Act.put _ (some 14) _ = _
      simp only [Act.put, List.setIfInBounds_toArray, List.set_cons_zero, List.set_cons_succ, i64_w, i32_w]
      rfl
     refine pure_ (i := 8) (N := some 5) (v := ?_) (a' := ?_) #[true, true, true, true, true, true, true, true, true, false] rfl rfl (any_of HT_.out (by kernel_rfl)) (fun _ _ _ h => h) (Or.inl ⟨by rfl, ?_⟩) ?_ ?_
     rotate_left
     ·intro w'
      go_simp
      with_reducible rfl
     rotate_left
     ·simp only [Act.put, List.setIfInBounds_toArray, List.set_cons_zero, List.set_cons_succ, i64_w, i32_w]
      rfl
     refine pure_ (i := 9) (N := some 6) (v := ?_) (a' := ?_) #[true, true, true, true, true, true, true, true, true, true] rfl rfl (any_of HT_.out (by kernel_rfl)) (fun _ _ _ h => h) (Or.inl ⟨by rfl, ?_⟩) ?_ ?_
     rotate_left
     ·intro w'
      go_simp
      with_reducible rfl
     rotate_left
     ·simp only [Act.put, List.setIfInBounds_toArray, List.set_cons_zero, List.set_cons_succ, i64_w, i32_w]
      rfl
     refine done_ (done_of HT_.out (by kernel_rfl)) ?_
     have hnb26 := NB179_180.out
     have hnc26 := NB180_179.out
     obtain ⟨hcz27_0, hcz27_1, hcz27_2, hcz27_3, hcz27_4, hfz27_0, hfz27_1, hfz27_2, hfz27_3, hfz27_4⟩ := cz5 (W := w25) BK179
     try go_wp2
     go_ret
     exact ⟨ez, bz⟩
   ·replace c12 := Bool.eq_false_iff.mpr c12
    subst c12
    replace H := hF H
    obtain rfl := Option.some.inj H
    go_enter Tryz.func56, Tryz.ntmps56
    try go_wp2_with (first | ((with_reducible refine gate_dst (N := 2) rfl ?_); refine box_event rfl (N := 2) rfl (cs := #[.string a0_0, .int .i64 a0_1, .string a0_2, .int .i64 a0_3, .bool false]) (t := 88) gz ?_; intro gb179 hg w28 hbox hb; have GW179 := gN bz hg; have GE179 := gN bz hg; have BK179 := Aside0.mk hbox; replace HB := bN bz hb; clear hb hbox hg) | ((with_reducible refine gate_dst (N := 3) rfl ?_); refine box_event rfl (N := 3) rfl (cs := #[.string a1_0, .int .i64 a1_1]) (t := 42) gz ?_; intro gb180 hg w29 hbox hb; have GW180 := gN bz hg; have GE180 := gN bz hg; have NB179_180 := lN (g := gb179) (cs := #[.string a0_0, .int .i64 a0_1, .string a0_2, .int .i64 a0_3, .bool false]) hg bk; have NB180_179 := rN (g := gb179) (cs := #[.string a0_0, .int .i64 a0_1, .string a0_2, .int .i64 a0_3, .bool false]) hg bk; replace BK179 := kN (g := gb179) (cs := #[.string a0_0, .int .i64 a0_1, .string a0_2, .int .i64 a0_3, .bool false]) hb bk; have BK180 := Aside0.mk hbox; replace HB := bN bz hb; clear hb hbox hg))
    replace BK179 := Aside0.mk (blk_drew BK179.out)
    replace BK180 := Aside0.mk (blk_drew BK180.out)
    replace HB := Aside0.mk (below_drew1 HB.out)
    refine start_ (n := 10) (S := fun w' => w'.cell? ⟨gb180, 0, none⟩ = some (.string a1_0) ∧ w'.cell? ⟨gb180, 1, none⟩ = some (.int .i64 a1_1) ∧ w'.cell? ⟨gb179, 0, none⟩ = some (.string a0_0) ∧ w'.cell? ⟨gb179, 1, none⟩ = some (.int .i64 a0_1) ∧ w'.cell? ⟨gb179, 2, none⟩ = some (.string a0_2) ∧ w'.cell? ⟨gb179, 3, none⟩ = some (.int .i64 a0_3) ∧ w'.cell? ⟨gb179, 4, none⟩ = some (.bool false)) (ds := []) #[false, false, false, false, false, false, false, false, false, false] (by kernel_rfl) rfl rfl ⟨(blk_cell BK180.out 0).trans rfl, (blk_cell BK180.out 1).trans rfl, (blk_cell BK179.out 0).trans rfl, (blk_cell BK179.out 1).trans rfl, (blk_cell BK179.out 2).trans rfl, (blk_cell BK179.out 3).trans rfl, (blk_cell BK179.out 4).trans rfl⟩ (fun hHeld => ?_); refine with_tabW short_span_in.tab1 short_span_in.bits1 (fun HT_ HW_ => ?_)
    generalize w29.drew = w30 at BK179 BK180 HB hHeld ⊢
    refine pure_ (i := 1) (N := some 8) (v := ?_) (a' := ?_) #[false, true, false, false, false, false, false, false, false, false] rfl rfl (any_of HT_.out (by kernel_rfl)) (fun _ _ _ h => h) (Or.inl ⟨by rfl, ?_⟩) ?_ ?_
    rotate_left
    ·intro w'
     go_simp
     with_reducible rfl
    rotate_left
    ·simp only [Act.put, List.setIfInBounds_toArray, List.set_cons_zero, List.set_cons_succ, i64_w, i32_w]
     rfl
    refine pure_ (i := 5) (N := some 12) (v := ?_) (a' := ?_) #[false, true, false, false, false, true, false, false, false, false] rfl rfl (any_of HT_.out (by kernel_rfl)) (fun _ _ _ h => h) (Or.inl ⟨by rfl, ?_⟩) ?_ ?_
    rotate_left
    ·intro w'
     go_simp
     with_reducible rfl
    rotate_left
    ·simp only [Act.put, List.setIfInBounds_toArray, List.set_cons_zero, List.set_cons_succ, i64_w, i32_w]
     rfl
    refine take_ (i := 0) (N := some 7) (v := ?_) (a' := ?_) #[true, true, false, false, false, true, false, false, false, false] rfl rfl (take_ofW HT_.out HW_.out (by kernel_rfl)) (fun _ _ _ h => h) (Or.inl ⟨by rfl, ?_⟩) hHeld ?_ ?_
    rotate_left
    ·rintro w' ⟨s0, s1, s2, s3, s4, s5, s6⟩
     go_simp
     with_reducible rfl
    rotate_left
    ·simp only [Act.put, List.setIfInBounds_toArray, List.set_cons_zero, List.set_cons_succ, i64_w, i32_w]
     rfl
    refine take_ (i := 2) (N := some 9) (v := ?_) (a' := ?_) #[true, true, true, false, false, true, false, false, false, false] rfl rfl (take_ofW HT_.out HW_.out (by kernel_rfl)) (fun _ _ _ h => h) (Or.inl ⟨by rfl, ?_⟩) hHeld ?_ ?_
    rotate_left
    ·rintro w' ⟨s0, s1, s2, s3, s4, s5, s6⟩
     go_simp
     with_reducible rfl
    rotate_left
    ·simp only [Act.put, List.setIfInBounds_toArray, List.set_cons_zero, List.set_cons_succ, i64_w, i32_w]
     rfl
    refine take_ (i := 4) (N := some 11) (v := ?_) (a' := ?_) #[true, true, true, false, true, true, false, false, false, false] rfl rfl (take_ofW HT_.out HW_.out (by kernel_rfl)) (fun _ _ _ h => h) (Or.inl ⟨by rfl, ?_⟩) hHeld ?_ ?_
    rotate_left
    ·rintro w' ⟨s0, s1, s2, s3, s4, s5, s6⟩
     go_simp
     with_reducible rfl
    rotate_left
    ·simp only [Act.put, List.setIfInBounds_toArray, List.set_cons_zero, List.set_cons_succ, i64_w, i32_w]
     rfl
    refine take_ (i := 6) (N := some 13) (v := ?_) (a' := ?_) #[true, true, true, false, true, true, true, false, false, false] rfl rfl (take_ofW HT_.out HW_.out (by kernel_rfl)) (fun _ _ _ h => h) (Or.inl ⟨by rfl, ?_⟩) hHeld ?_ ?_
    rotate_left
    ·rintro w' ⟨s0, s1, s2, s3, s4, s5, s6⟩
     go_simp
     with_reducible rfl
    rotate_left
    ·simp only [Act.put, List.setIfInBounds_toArray, List.set_cons_zero, List.set_cons_succ, i64_w, i32_w]
     rfl
    refine one_ (i := 3) (N := some 10) #[true, true, true, true, true, true, true, false, false, false] rfl rfl (one_of HT_.out (by kernel_rfl)) (by decide) (fun K hK => ?_)
    refine goes_ Tryz.func53 (by kernel_rfl) rfl #[.agg #[.string a1_0, .int .i64 a1_1], .agg #[.string a0_0, .int .i64 a0_1]] (by rfl) rfl rfl lz ?_
    with_reducible refine (short_cmp.calls k a1_0 a1_1 a0_0 a0_1 t181 _ A3.out).mono ?_
    rintro e w31 ⟨rfl, hb⟩
    refine ⟨_, rfl, ?_⟩
    replace BK179 := Aside0.mk (blk_below (g := gb179) (o := .cells #[.string a0_0, .int .i64 a0_1, .string a0_2, .int .i64 a0_3, .bool false] 88 (0, 0)) bk hb)
    replace BK180 := Aside0.mk (blk_below (g := gb180) (o := .cells #[.string a1_0, .int .i64 a1_1] 42 (0, 0)) bk hb)
    replace HB := Aside0.mk (below_step bz hb)
    (try clear hb)
    (try clear hb2)
    (try clear hk)
    (try clear hi)
    refine hK.out _ _ ⟨(blk_cell BK180.out 0).trans rfl, (blk_cell BK180.out 1).trans rfl, (blk_cell BK179.out 0).trans rfl, (blk_cell BK179.out 1).trans rfl, (blk_cell BK179.out 2).trans rfl, (blk_cell BK179.out 3).trans rfl, (blk_cell BK179.out 4).trans rfl⟩ (fun hHeld => ?_)
    clear hK K
    refine norm_ (a' := ?_) ?_ ?_
    rotate_left
    ·show Act.put _ (some 10) _ = _
     simp only [Act.put, List.setIfInBounds_toArray, List.set_cons_zero, List.set_cons_succ, i64_w, i32_w]
     rfl
    refine one_ (i := 7) (N := some 14) #[true, true, true, true, true, true, true, true, false, false] rfl rfl (one_of HT_.out (by kernel_rfl)) (by decide) (fun K hK => ?_)
    refine goes_ Tryz.func53 (by kernel_rfl) rfl #[.agg #[.string a1_0, .int .i64 a1_1], .agg #[.string a0_2, .int .i64 a0_3]] (by rfl) rfl rfl lz ?_
    with_reducible refine (short_cmp.calls k a1_0 a1_1 a0_2 a0_3 t182 _ A4.out).mono ?_
    rintro e w32 ⟨rfl, hb⟩
    refine ⟨_, rfl, ?_⟩
    replace BK179 := Aside0.mk (blk_below (g := gb179) (o := .cells #[.string a0_0, .int .i64 a0_1, .string a0_2, .int .i64 a0_3, .bool false] 88 (0, 0)) bk hb)
    replace BK180 := Aside0.mk (blk_below (g := gb180) (o := .cells #[.string a1_0, .int .i64 a1_1] 42 (0, 0)) bk hb)
    replace HB := Aside0.mk (below_step bz hb)
    (try clear hb)
    (try clear hb2)
    (try clear hk)
    (try clear hi)
    refine hK.out _ _ ⟨(blk_cell BK180.out 0).trans rfl, (blk_cell BK180.out 1).trans rfl, (blk_cell BK179.out 0).trans rfl, (blk_cell BK179.out 1).trans rfl, (blk_cell BK179.out 2).trans rfl, (blk_cell BK179.out 3).trans rfl, (blk_cell BK179.out 4).trans rfl⟩ (fun hHeld => ?_)
    clear hK K
    refine norm_ (a' := ?_) ?_ ?_
    rotate_left
    ·show Act.put _ (some 14) _ = _
     simp only [Act.put, List.setIfInBounds_toArray, List.set_cons_zero, List.set_cons_succ, i64_w, i32_w]
     rfl
    refine pure_ (i := 8) (N := some 5) (v := ?_) (a' := ?_) #[true, true, true, true, true, true, true, true, true, false] rfl rfl (any_of HT_.out (by kernel_rfl)) (fun _ _ _ h => h) (Or.inl ⟨by rfl, ?_⟩) ?_ ?_
    rotate_left
    ·intro w'
     go_simp
     with_reducible rfl
    rotate_left
    ·simp only [Act.put, List.setIfInBounds_toArray, List.set_cons_zero, List.set_cons_succ, i64_w, i32_w]
     rfl
    refine pure_ (i := 9) (N := some 6) (v := ?_) (a' := ?_) #[true, true, true, true, true, true, true, true, true, true] rfl rfl (any_of HT_.out (by kernel_rfl)) (fun _ _ _ h => h) (Or.inl ⟨by rfl, ?_⟩) ?_ ?_
    rotate_left
    ·intro w'
     go_simp
     with_reducible rfl
    rotate_left
    ·simp only [Act.put, List.setIfInBounds_toArray, List.set_cons_zero, List.set_cons_succ, i64_w, i32_w]
     rfl
    refine done_ (done_of HT_.out (by kernel_rfl)) ?_
    have hnb33 := NB179_180.out
    have hnc33 := NB180_179.out
    obtain ⟨hcz34_0, hcz34_1, hcz34_2, hcz34_3, hcz34_4, hfz34_0, hfz34_1, hfz34_2, hfz34_3, hfz34_4⟩ := cz5 (W := w32) BK179
    try go_wp2
    go_ret
    exact ⟨ez, bz⟩
 ·replace H := hN H c5
  have c5b0 : decide (0 < t181) = false := decide_eq_false c5
  clear c5
  by_cases c35 : a0_4 = true
  ·subst c35
   replace H := hT H
   by_cases c36 : t181 ≥ 0
   ·replace H := hE H c36
    have c36b0 : decide (0 ≤ t181) = true := decide_eq_true c36
    clear c36
    obtain rfl := Option.some.inj H
    go_enter Tryz.func56, Tryz.ntmps56
    try go_wp2_with (first | ((with_reducible refine gate_dst (N := 2) rfl ?_); refine box_event rfl (N := 2) rfl (cs := #[.string a0_0, .int .i64 a0_1, .string a0_2, .int .i64 a0_3, .bool true]) (t := 88) gz ?_; intro gb179 hg w37 hbox hb; have GW179 := gN bz hg; have GE179 := gN bz hg; have BK179 := Aside0.mk hbox; replace HB := bN bz hb; clear hb hbox hg) | ((with_reducible refine gate_dst (N := 3) rfl ?_); refine box_event rfl (N := 3) rfl (cs := #[.string a1_0, .int .i64 a1_1]) (t := 42) gz ?_; intro gb180 hg w38 hbox hb; have GW180 := gN bz hg; have GE180 := gN bz hg; have NB179_180 := lN (g := gb179) (cs := #[.string a0_0, .int .i64 a0_1, .string a0_2, .int .i64 a0_3, .bool true]) hg bk; have NB180_179 := rN (g := gb179) (cs := #[.string a0_0, .int .i64 a0_1, .string a0_2, .int .i64 a0_3, .bool true]) hg bk; replace BK179 := kN (g := gb179) (cs := #[.string a0_0, .int .i64 a0_1, .string a0_2, .int .i64 a0_3, .bool true]) hb bk; have BK180 := Aside0.mk hbox; replace HB := bN bz hb; clear hb hbox hg))
    replace BK179 := Aside0.mk (blk_drew BK179.out)
    replace BK180 := Aside0.mk (blk_drew BK180.out)
    replace HB := Aside0.mk (below_drew1 HB.out)
    refine start_ (n := 10) (S := fun w' => w'.cell? ⟨gb180, 0, none⟩ = some (.string a1_0) ∧ w'.cell? ⟨gb180, 1, none⟩ = some (.int .i64 a1_1) ∧ w'.cell? ⟨gb179, 0, none⟩ = some (.string a0_0) ∧ w'.cell? ⟨gb179, 1, none⟩ = some (.int .i64 a0_1) ∧ w'.cell? ⟨gb179, 2, none⟩ = some (.string a0_2) ∧ w'.cell? ⟨gb179, 3, none⟩ = some (.int .i64 a0_3) ∧ w'.cell? ⟨gb179, 4, none⟩ = some (.bool true)) (ds := []) #[false, false, false, false, false, false, false, false, false, false] (by kernel_rfl) rfl rfl ⟨(blk_cell BK180.out 0).trans rfl, (blk_cell BK180.out 1).trans rfl, (blk_cell BK179.out 0).trans rfl, (blk_cell BK179.out 1).trans rfl, (blk_cell BK179.out 2).trans rfl, (blk_cell BK179.out 3).trans rfl, (blk_cell BK179.out 4).trans rfl⟩ (fun hHeld => ?_); refine with_tabW short_span_in.tab1 short_span_in.bits1 (fun HT_ HW_ => ?_)
    generalize w38.drew = w39 at BK179 BK180 HB hHeld ⊢
    refine pure_ (i := 1) (N := some 8) (v := ?_) (a' := ?_) #[false, true, false, false, false, false, false, false, false, false] rfl rfl (any_of HT_.out (by kernel_rfl)) (fun _ _ _ h => h) (Or.inl ⟨by rfl, ?_⟩) ?_ ?_
    rotate_left
    ·intro w'
     go_simp
     with_reducible rfl
    rotate_left
    ·simp only [Act.put, List.setIfInBounds_toArray, List.set_cons_zero, List.set_cons_succ, i64_w, i32_w]
     rfl
    refine pure_ (i := 5) (N := some 12) (v := ?_) (a' := ?_) #[false, true, false, false, false, true, false, false, false, false] rfl rfl (any_of HT_.out (by kernel_rfl)) (fun _ _ _ h => h) (Or.inl ⟨by rfl, ?_⟩) ?_ ?_
    rotate_left
    ·intro w'
     go_simp
     with_reducible rfl
    rotate_left
    ·simp only [Act.put, List.setIfInBounds_toArray, List.set_cons_zero, List.set_cons_succ, i64_w, i32_w]
     rfl
    refine take_ (i := 0) (N := some 7) (v := ?_) (a' := ?_) #[true, true, false, false, false, true, false, false, false, false] rfl rfl (take_ofW HT_.out HW_.out (by kernel_rfl)) (fun _ _ _ h => h) (Or.inl ⟨by rfl, ?_⟩) hHeld ?_ ?_
    rotate_left
    ·rintro w' ⟨s0, s1, s2, s3, s4, s5, s6⟩
     go_simp
     with_reducible rfl
    rotate_left
    ·simp only [Act.put, List.setIfInBounds_toArray, List.set_cons_zero, List.set_cons_succ, i64_w, i32_w]
     rfl
    refine take_ (i := 2) (N := some 9) (v := ?_) (a' := ?_) #[true, true, true, false, false, true, false, false, false, false] rfl rfl (take_ofW HT_.out HW_.out (by kernel_rfl)) (fun _ _ _ h => h) (Or.inl ⟨by rfl, ?_⟩) hHeld ?_ ?_
    rotate_left
    ·rintro w' ⟨s0, s1, s2, s3, s4, s5, s6⟩
     go_simp
     with_reducible rfl
    rotate_left
    ·simp only [Act.put, List.setIfInBounds_toArray, List.set_cons_zero, List.set_cons_succ, i64_w, i32_w]
     rfl
    refine take_ (i := 4) (N := some 11) (v := ?_) (a' := ?_) #[true, true, true, false, true, true, false, false, false, false] rfl rfl (take_ofW HT_.out HW_.out (by kernel_rfl)) (fun _ _ _ h => h) (Or.inl ⟨by rfl, ?_⟩) hHeld ?_ ?_
    rotate_left
    ·rintro w' ⟨s0, s1, s2, s3, s4, s5, s6⟩
     go_simp
     with_reducible rfl
    rotate_left
    ·simp only [Act.put, List.setIfInBounds_toArray, List.set_cons_zero, List.set_cons_succ, i64_w, i32_w]
     rfl
    refine take_ (i := 6) (N := some 13) (v := ?_) (a' := ?_) #[true, true, true, false, true, true, true, false, false, false] rfl rfl (take_ofW HT_.out HW_.out (by kernel_rfl)) (fun _ _ _ h => h) (Or.inl ⟨by rfl, ?_⟩) hHeld ?_ ?_
    rotate_left
    ·rintro w' ⟨s0, s1, s2, s3, s4, s5, s6⟩
     go_simp
     with_reducible rfl
    rotate_left
    ·simp only [Act.put, List.setIfInBounds_toArray, List.set_cons_zero, List.set_cons_succ, i64_w, i32_w]
     rfl
    refine one_ (i := 3) (N := some 10) #[true, true, true, true, true, true, true, false, false, false] rfl rfl (one_of HT_.out (by kernel_rfl)) (by decide) (fun K hK => ?_)
    refine goes_ Tryz.func53 (by kernel_rfl) rfl #[.agg #[.string a1_0, .int .i64 a1_1], .agg #[.string a0_0, .int .i64 a0_1]] (by rfl) rfl rfl lz ?_
    with_reducible refine (short_cmp.calls k a1_0 a1_1 a0_0 a0_1 t181 _ A3.out).mono ?_
    rintro e w40 ⟨rfl, hb⟩
    refine ⟨_, rfl, ?_⟩
    replace BK179 := Aside0.mk (blk_below (g := gb179) (o := .cells #[.string a0_0, .int .i64 a0_1, .string a0_2, .int .i64 a0_3, .bool true] 88 (0, 0)) bk hb)
    replace BK180 := Aside0.mk (blk_below (g := gb180) (o := .cells #[.string a1_0, .int .i64 a1_1] 42 (0, 0)) bk hb)
    replace HB := Aside0.mk (below_step bz hb)
    (try clear hb)
    (try clear hb2)
    (try clear hk)
    (try clear hi)
    refine hK.out _ _ ⟨(blk_cell BK180.out 0).trans rfl, (blk_cell BK180.out 1).trans rfl, (blk_cell BK179.out 0).trans rfl, (blk_cell BK179.out 1).trans rfl, (blk_cell BK179.out 2).trans rfl, (blk_cell BK179.out 3).trans rfl, (blk_cell BK179.out 4).trans rfl⟩ (fun hHeld => ?_)
    clear hK K
    refine norm_ (a' := ?_) ?_ ?_
    rotate_left
    ·show Act.put _ (some 10) _ = _
     simp only [Act.put, List.setIfInBounds_toArray, List.set_cons_zero, List.set_cons_succ, i64_w, i32_w]
     rfl
    refine one_ (i := 7) (N := some 14) #[true, true, true, true, true, true, true, true, false, false] rfl rfl (one_of HT_.out (by kernel_rfl)) (by decide) (fun K hK => ?_)
    refine goes_ Tryz.func53 (by kernel_rfl) rfl #[.agg #[.string a1_0, .int .i64 a1_1], .agg #[.string a0_2, .int .i64 a0_3]] (by rfl) rfl rfl lz ?_
    with_reducible refine (short_cmp.calls k a1_0 a1_1 a0_2 a0_3 t182 _ A4.out).mono ?_
    rintro e w41 ⟨rfl, hb⟩
    refine ⟨_, rfl, ?_⟩
    replace BK179 := Aside0.mk (blk_below (g := gb179) (o := .cells #[.string a0_0, .int .i64 a0_1, .string a0_2, .int .i64 a0_3, .bool true] 88 (0, 0)) bk hb)
    replace BK180 := Aside0.mk (blk_below (g := gb180) (o := .cells #[.string a1_0, .int .i64 a1_1] 42 (0, 0)) bk hb)
    replace HB := Aside0.mk (below_step bz hb)
    (try clear hb)
    (try clear hb2)
    (try clear hk)
    (try clear hi)
    refine hK.out _ _ ⟨(blk_cell BK180.out 0).trans rfl, (blk_cell BK180.out 1).trans rfl, (blk_cell BK179.out 0).trans rfl, (blk_cell BK179.out 1).trans rfl, (blk_cell BK179.out 2).trans rfl, (blk_cell BK179.out 3).trans rfl, (blk_cell BK179.out 4).trans rfl⟩ (fun hHeld => ?_)
    clear hK K
    refine norm_ (a' := ?_) ?_ ?_
    rotate_left
    ·show Act.put _ (some 14) _ = _
     simp only [Act.put, List.setIfInBounds_toArray, List.set_cons_zero, List.set_cons_succ, i64_w, i32_w]
     rfl
    refine pure_ (i := 8) (N := some 5) (v := ?_) (a' := ?_) #[true, true, true, true, true, true, true, true, true, false] rfl rfl (any_of HT_.out (by kernel_rfl)) (fun _ _ _ h => h) (Or.inl ⟨by rfl, ?_⟩) ?_ ?_
    rotate_left
    ·intro w'
     go_simp
     with_reducible rfl
    rotate_left
    ·simp only [Act.put, List.setIfInBounds_toArray, List.set_cons_zero, List.set_cons_succ, i64_w, i32_w]
     rfl
    refine pure_ (i := 9) (N := some 6) (v := ?_) (a' := ?_) #[true, true, true, true, true, true, true, true, true, true] rfl rfl (any_of HT_.out (by kernel_rfl)) (fun _ _ _ h => h) (Or.inl ⟨by rfl, ?_⟩) ?_ ?_
    rotate_left
    ·intro w'
     go_simp
     with_reducible rfl
    rotate_left
    ·simp only [Act.put, List.setIfInBounds_toArray, List.set_cons_zero, List.set_cons_succ, i64_w, i32_w]
     rfl
    refine done_ (done_of HT_.out (by kernel_rfl)) ?_
    have hnb42 := NB179_180.out
    have hnc42 := NB180_179.out
    obtain ⟨hcz43_0, hcz43_1, hcz43_2, hcz43_3, hcz43_4, hfz43_0, hfz43_1, hfz43_2, hfz43_3, hfz43_4⟩ := cz5 (W := w41) BK179
    try go_wp2
    go_ret
    exact ⟨ez, bz⟩
   ·replace H := hN H c36
    have c36b0 : decide (0 ≤ t181) = false := decide_eq_false c36
    clear c36
    obtain rfl := Option.some.inj H
    go_enter Tryz.func56, Tryz.ntmps56
    try go_wp2_with (first | ((with_reducible refine gate_dst (N := 2) rfl ?_); refine box_event rfl (N := 2) rfl (cs := #[.string a0_0, .int .i64 a0_1, .string a0_2, .int .i64 a0_3, .bool true]) (t := 88) gz ?_; intro gb179 hg w44 hbox hb; have GW179 := gN bz hg; have GE179 := gN bz hg; have BK179 := Aside0.mk hbox; replace HB := bN bz hb; clear hb hbox hg) | ((with_reducible refine gate_dst (N := 3) rfl ?_); refine box_event rfl (N := 3) rfl (cs := #[.string a1_0, .int .i64 a1_1]) (t := 42) gz ?_; intro gb180 hg w45 hbox hb; have GW180 := gN bz hg; have GE180 := gN bz hg; have NB179_180 := lN (g := gb179) (cs := #[.string a0_0, .int .i64 a0_1, .string a0_2, .int .i64 a0_3, .bool true]) hg bk; have NB180_179 := rN (g := gb179) (cs := #[.string a0_0, .int .i64 a0_1, .string a0_2, .int .i64 a0_3, .bool true]) hg bk; replace BK179 := kN (g := gb179) (cs := #[.string a0_0, .int .i64 a0_1, .string a0_2, .int .i64 a0_3, .bool true]) hb bk; have BK180 := Aside0.mk hbox; replace HB := bN bz hb; clear hb hbox hg))
    replace BK179 := Aside0.mk (blk_drew BK179.out)
    replace BK180 := Aside0.mk (blk_drew BK180.out)
    replace HB := Aside0.mk (below_drew1 HB.out)
    refine start_ (n := 10) (S := fun w' => w'.cell? ⟨gb180, 0, none⟩ = some (.string a1_0) ∧ w'.cell? ⟨gb180, 1, none⟩ = some (.int .i64 a1_1) ∧ w'.cell? ⟨gb179, 0, none⟩ = some (.string a0_0) ∧ w'.cell? ⟨gb179, 1, none⟩ = some (.int .i64 a0_1) ∧ w'.cell? ⟨gb179, 2, none⟩ = some (.string a0_2) ∧ w'.cell? ⟨gb179, 3, none⟩ = some (.int .i64 a0_3) ∧ w'.cell? ⟨gb179, 4, none⟩ = some (.bool true)) (ds := []) #[false, false, false, false, false, false, false, false, false, false] (by kernel_rfl) rfl rfl ⟨(blk_cell BK180.out 0).trans rfl, (blk_cell BK180.out 1).trans rfl, (blk_cell BK179.out 0).trans rfl, (blk_cell BK179.out 1).trans rfl, (blk_cell BK179.out 2).trans rfl, (blk_cell BK179.out 3).trans rfl, (blk_cell BK179.out 4).trans rfl⟩ (fun hHeld => ?_); refine with_tabW short_span_in.tab1 short_span_in.bits1 (fun HT_ HW_ => ?_)
    generalize w45.drew = w46 at BK179 BK180 HB hHeld ⊢
    refine pure_ (i := 1) (N := some 8) (v := ?_) (a' := ?_) #[false, true, false, false, false, false, false, false, false, false] rfl rfl (any_of HT_.out (by kernel_rfl)) (fun _ _ _ h => h) (Or.inl ⟨by rfl, ?_⟩) ?_ ?_
    rotate_left
    ·intro w'
     go_simp
     with_reducible rfl
    rotate_left
    ·simp only [Act.put, List.setIfInBounds_toArray, List.set_cons_zero, List.set_cons_succ, i64_w, i32_w]
     rfl
    refine pure_ (i := 5) (N := some 12) (v := ?_) (a' := ?_) #[false, true, false, false, false, true, false, false, false, false] rfl rfl (any_of HT_.out (by kernel_rfl)) (fun _ _ _ h => h) (Or.inl ⟨by rfl, ?_⟩) ?_ ?_
    rotate_left
    ·intro w'
     go_simp
     with_reducible rfl
    rotate_left
    ·simp only [Act.put, List.setIfInBounds_toArray, List.set_cons_zero, List.set_cons_succ, i64_w, i32_w]
     rfl
    refine take_ (i := 0) (N := some 7) (v := ?_) (a' := ?_) #[true, true, false, false, false, true, false, false, false, false] rfl rfl (take_ofW HT_.out HW_.out (by kernel_rfl)) (fun _ _ _ h => h) (Or.inl ⟨by rfl, ?_⟩) hHeld ?_ ?_
    rotate_left
    ·rintro w' ⟨s0, s1, s2, s3, s4, s5, s6⟩
     go_simp
     with_reducible rfl
    rotate_left
    ·simp only [Act.put, List.setIfInBounds_toArray, List.set_cons_zero, List.set_cons_succ, i64_w, i32_w]
     rfl
    refine take_ (i := 2) (N := some 9) (v := ?_) (a' := ?_) #[true, true, true, false, false, true, false, false, false, false] rfl rfl (take_ofW HT_.out HW_.out (by kernel_rfl)) (fun _ _ _ h => h) (Or.inl ⟨by rfl, ?_⟩) hHeld ?_ ?_
    rotate_left
    ·rintro w' ⟨s0, s1, s2, s3, s4, s5, s6⟩
     go_simp
     with_reducible rfl
    rotate_left
    ·simp only [Act.put, List.setIfInBounds_toArray, List.set_cons_zero, List.set_cons_succ, i64_w, i32_w]
     rfl
    refine take_ (i := 4) (N := some 11) (v := ?_) (a' := ?_) #[true, true, true, false, true, true, false, false, false, false] rfl rfl (take_ofW HT_.out HW_.out (by kernel_rfl)) (fun _ _ _ h => h) (Or.inl ⟨by rfl, ?_⟩) hHeld ?_ ?_
    rotate_left
    ·rintro w' ⟨s0, s1, s2, s3, s4, s5, s6⟩
     go_simp
     with_reducible rfl
    rotate_left
    ·simp only [Act.put, List.setIfInBounds_toArray, List.set_cons_zero, List.set_cons_succ, i64_w, i32_w]
     rfl
    refine take_ (i := 6) (N := some 13) (v := ?_) (a' := ?_) #[true, true, true, false, true, true, true, false, false, false] rfl rfl (take_ofW HT_.out HW_.out (by kernel_rfl)) (fun _ _ _ h => h) (Or.inl ⟨by rfl, ?_⟩) hHeld ?_ ?_
    rotate_left
    ·rintro w' ⟨s0, s1, s2, s3, s4, s5, s6⟩
     go_simp
     with_reducible rfl
    rotate_left
    ·simp only [Act.put, List.setIfInBounds_toArray, List.set_cons_zero, List.set_cons_succ, i64_w, i32_w]
     rfl
    refine one_ (i := 3) (N := some 10) #[true, true, true, true, true, true, true, false, false, false] rfl rfl (one_of HT_.out (by kernel_rfl)) (by decide) (fun K hK => ?_)
    refine goes_ Tryz.func53 (by kernel_rfl) rfl #[.agg #[.string a1_0, .int .i64 a1_1], .agg #[.string a0_0, .int .i64 a0_1]] (by rfl) rfl rfl lz ?_
    with_reducible refine (short_cmp.calls k a1_0 a1_1 a0_0 a0_1 t181 _ A3.out).mono ?_
    rintro e w47 ⟨rfl, hb⟩
    refine ⟨_, rfl, ?_⟩
    replace BK179 := Aside0.mk (blk_below (g := gb179) (o := .cells #[.string a0_0, .int .i64 a0_1, .string a0_2, .int .i64 a0_3, .bool true] 88 (0, 0)) bk hb)
    replace BK180 := Aside0.mk (blk_below (g := gb180) (o := .cells #[.string a1_0, .int .i64 a1_1] 42 (0, 0)) bk hb)
    replace HB := Aside0.mk (below_step bz hb)
    (try clear hb)
    (try clear hb2)
    (try clear hk)
    (try clear hi)
    refine hK.out _ _ ⟨(blk_cell BK180.out 0).trans rfl, (blk_cell BK180.out 1).trans rfl, (blk_cell BK179.out 0).trans rfl, (blk_cell BK179.out 1).trans rfl, (blk_cell BK179.out 2).trans rfl, (blk_cell BK179.out 3).trans rfl, (blk_cell BK179.out 4).trans rfl⟩ (fun hHeld => ?_)
    clear hK K
    refine norm_ (a' := ?_) ?_ ?_
    rotate_left
    ·show Act.put _ (some 10) _ = _
     simp only [Act.put, List.setIfInBounds_toArray, List.set_cons_zero, List.set_cons_succ, i64_w, i32_w]
     rfl
    refine one_ (i := 7) (N := some 14) #[true, true, true, true, true, true, true, true, false, false] rfl rfl (one_of HT_.out (by kernel_rfl)) (by decide) (fun K hK => ?_)
    refine goes_ Tryz.func53 (by kernel_rfl) rfl #[.agg #[.string a1_0, .int .i64 a1_1], .agg #[.string a0_2, .int .i64 a0_3]] (by rfl) rfl rfl lz ?_
    with_reducible refine (short_cmp.calls k a1_0 a1_1 a0_2 a0_3 t182 _ A4.out).mono ?_
    rintro e w48 ⟨rfl, hb⟩
    refine ⟨_, rfl, ?_⟩
    replace BK179 := Aside0.mk (blk_below (g := gb179) (o := .cells #[.string a0_0, .int .i64 a0_1, .string a0_2, .int .i64 a0_3, .bool true] 88 (0, 0)) bk hb)
    replace BK180 := Aside0.mk (blk_below (g := gb180) (o := .cells #[.string a1_0, .int .i64 a1_1] 42 (0, 0)) bk hb)
    replace HB := Aside0.mk (below_step bz hb)
    (try clear hb)
    (try clear hb2)
    (try clear hk)
    (try clear hi)
    refine hK.out _ _ ⟨(blk_cell BK180.out 0).trans rfl, (blk_cell BK180.out 1).trans rfl, (blk_cell BK179.out 0).trans rfl, (blk_cell BK179.out 1).trans rfl, (blk_cell BK179.out 2).trans rfl, (blk_cell BK179.out 3).trans rfl, (blk_cell BK179.out 4).trans rfl⟩ (fun hHeld => ?_)
    clear hK K
    refine norm_ (a' := ?_) ?_ ?_
    rotate_left
    ·show Act.put _ (some 14) _ = _
     simp only [Act.put, List.setIfInBounds_toArray, List.set_cons_zero, List.set_cons_succ, i64_w, i32_w]
     rfl
    refine pure_ (i := 8) (N := some 5) (v := ?_) (a' := ?_) #[true, true, true, true, true, true, true, true, true, false] rfl rfl (any_of HT_.out (by kernel_rfl)) (fun _ _ _ h => h) (Or.inl ⟨by rfl, ?_⟩) ?_ ?_
    rotate_left
    ·intro w'
     go_simp
     with_reducible rfl
    rotate_left
    ·simp only [Act.put, List.setIfInBounds_toArray, List.set_cons_zero, List.set_cons_succ, i64_w, i32_w]
     rfl
    refine pure_ (i := 9) (N := some 6) (v := ?_) (a' := ?_) #[true, true, true, true, true, true, true, true, true, true] rfl rfl (any_of HT_.out (by kernel_rfl)) (fun _ _ _ h => h) (Or.inl ⟨by rfl, ?_⟩) ?_ ?_
    rotate_left
    ·intro w'
     go_simp
     with_reducible rfl
    rotate_left
    ·simp only [Act.put, List.setIfInBounds_toArray, List.set_cons_zero, List.set_cons_succ, i64_w, i32_w]
     rfl
    refine done_ (done_of HT_.out (by kernel_rfl)) ?_
    have hnb49 := NB179_180.out
    have hnc49 := NB180_179.out
    obtain ⟨hcz50_0, hcz50_1, hcz50_2, hcz50_3, hcz50_4, hfz50_0, hfz50_1, hfz50_2, hfz50_3, hfz50_4⟩ := cz5 (W := w48) BK179
    try go_wp2
    go_ret
    exact ⟨ez, bz⟩
  ·replace c35 := Bool.eq_false_iff.mpr c35
   subst c35
   replace H := hF H
   obtain rfl := Option.some.inj H
   go_enter Tryz.func56, Tryz.ntmps56
   try go_wp2_with (first | ((with_reducible refine gate_dst (N := 2) rfl ?_); refine box_event rfl (N := 2) rfl (cs := #[.string a0_0, .int .i64 a0_1, .string a0_2, .int .i64 a0_3, .bool false]) (t := 88) gz ?_; intro gb179 hg w51 hbox hb; have GW179 := gN bz hg; have GE179 := gN bz hg; have BK179 := Aside0.mk hbox; replace HB := bN bz hb; clear hb hbox hg) | ((with_reducible refine gate_dst (N := 3) rfl ?_); refine box_event rfl (N := 3) rfl (cs := #[.string a1_0, .int .i64 a1_1]) (t := 42) gz ?_; intro gb180 hg w52 hbox hb; have GW180 := gN bz hg; have GE180 := gN bz hg; have NB179_180 := lN (g := gb179) (cs := #[.string a0_0, .int .i64 a0_1, .string a0_2, .int .i64 a0_3, .bool false]) hg bk; have NB180_179 := rN (g := gb179) (cs := #[.string a0_0, .int .i64 a0_1, .string a0_2, .int .i64 a0_3, .bool false]) hg bk; replace BK179 := kN (g := gb179) (cs := #[.string a0_0, .int .i64 a0_1, .string a0_2, .int .i64 a0_3, .bool false]) hb bk; have BK180 := Aside0.mk hbox; replace HB := bN bz hb; clear hb hbox hg))
   replace BK179 := Aside0.mk (blk_drew BK179.out)
   replace BK180 := Aside0.mk (blk_drew BK180.out)
   replace HB := Aside0.mk (below_drew1 HB.out)
   refine start_ (n := 10) (S := fun w' => w'.cell? ⟨gb180, 0, none⟩ = some (.string a1_0) ∧ w'.cell? ⟨gb180, 1, none⟩ = some (.int .i64 a1_1) ∧ w'.cell? ⟨gb179, 0, none⟩ = some (.string a0_0) ∧ w'.cell? ⟨gb179, 1, none⟩ = some (.int .i64 a0_1) ∧ w'.cell? ⟨gb179, 2, none⟩ = some (.string a0_2) ∧ w'.cell? ⟨gb179, 3, none⟩ = some (.int .i64 a0_3) ∧ w'.cell? ⟨gb179, 4, none⟩ = some (.bool false)) (ds := []) #[false, false, false, false, false, false, false, false, false, false] (by kernel_rfl) rfl rfl ⟨(blk_cell BK180.out 0).trans rfl, (blk_cell BK180.out 1).trans rfl, (blk_cell BK179.out 0).trans rfl, (blk_cell BK179.out 1).trans rfl, (blk_cell BK179.out 2).trans rfl, (blk_cell BK179.out 3).trans rfl, (blk_cell BK179.out 4).trans rfl⟩ (fun hHeld => ?_); refine with_tabW short_span_in.tab1 short_span_in.bits1 (fun HT_ HW_ => ?_)
   generalize w52.drew = w53 at BK179 BK180 HB hHeld ⊢
   refine pure_ (i := 1) (N := some 8) (v := ?_) (a' := ?_) #[false, true, false, false, false, false, false, false, false, false] rfl rfl (any_of HT_.out (by kernel_rfl)) (fun _ _ _ h => h) (Or.inl ⟨by rfl, ?_⟩) ?_ ?_
   rotate_left
   ·intro w'
    go_simp
    with_reducible rfl
   rotate_left
   ·simp only [Act.put, List.setIfInBounds_toArray, List.set_cons_zero, List.set_cons_succ, i64_w, i32_w]
    rfl
   refine pure_ (i := 5) (N := some 12) (v := ?_) (a' := ?_) #[false, true, false, false, false, true, false, false, false, false] rfl rfl (any_of HT_.out (by kernel_rfl)) (fun _ _ _ h => h) (Or.inl ⟨by rfl, ?_⟩) ?_ ?_
   rotate_left
   ·intro w'
    go_simp
    with_reducible rfl
   rotate_left
   ·simp only [Act.put, List.setIfInBounds_toArray, List.set_cons_zero, List.set_cons_succ, i64_w, i32_w]
    rfl
   refine take_ (i := 0) (N := some 7) (v := ?_) (a' := ?_) #[true, true, false, false, false, true, false, false, false, false] rfl rfl (take_ofW HT_.out HW_.out (by kernel_rfl)) (fun _ _ _ h => h) (Or.inl ⟨by rfl, ?_⟩) hHeld ?_ ?_
   rotate_left
   ·rintro w' ⟨s0, s1, s2, s3, s4, s5, s6⟩
    go_simp
    with_reducible rfl
   rotate_left
   ·simp only [Act.put, List.setIfInBounds_toArray, List.set_cons_zero, List.set_cons_succ, i64_w, i32_w]
    rfl
   refine take_ (i := 2) (N := some 9) (v := ?_) (a' := ?_) #[true, true, true, false, false, true, false, false, false, false] rfl rfl (take_ofW HT_.out HW_.out (by kernel_rfl)) (fun _ _ _ h => h) (Or.inl ⟨by rfl, ?_⟩) hHeld ?_ ?_
   rotate_left
   ·rintro w' ⟨s0, s1, s2, s3, s4, s5, s6⟩
    go_simp
    with_reducible rfl
   rotate_left
   ·simp only [Act.put, List.setIfInBounds_toArray, List.set_cons_zero, List.set_cons_succ, i64_w, i32_w]
    rfl
   refine take_ (i := 4) (N := some 11) (v := ?_) (a' := ?_) #[true, true, true, false, true, true, false, false, false, false] rfl rfl (take_ofW HT_.out HW_.out (by kernel_rfl)) (fun _ _ _ h => h) (Or.inl ⟨by rfl, ?_⟩) hHeld ?_ ?_
   rotate_left
   ·rintro w' ⟨s0, s1, s2, s3, s4, s5, s6⟩
    go_simp
    with_reducible rfl
   rotate_left
   ·simp only [Act.put, List.setIfInBounds_toArray, List.set_cons_zero, List.set_cons_succ, i64_w, i32_w]
    rfl
   refine take_ (i := 6) (N := some 13) (v := ?_) (a' := ?_) #[true, true, true, false, true, true, true, false, false, false] rfl rfl (take_ofW HT_.out HW_.out (by kernel_rfl)) (fun _ _ _ h => h) (Or.inl ⟨by rfl, ?_⟩) hHeld ?_ ?_
   rotate_left
   ·rintro w' ⟨s0, s1, s2, s3, s4, s5, s6⟩
    go_simp
    with_reducible rfl
   rotate_left
   ·simp only [Act.put, List.setIfInBounds_toArray, List.set_cons_zero, List.set_cons_succ, i64_w, i32_w]
    rfl
   refine one_ (i := 3) (N := some 10) #[true, true, true, true, true, true, true, false, false, false] rfl rfl (one_of HT_.out (by kernel_rfl)) (by decide) (fun K hK => ?_)
   refine goes_ Tryz.func53 (by kernel_rfl) rfl #[.agg #[.string a1_0, .int .i64 a1_1], .agg #[.string a0_0, .int .i64 a0_1]] (by rfl) rfl rfl lz ?_
   with_reducible refine (short_cmp.calls k a1_0 a1_1 a0_0 a0_1 t181 _ A3.out).mono ?_
   rintro e w54 ⟨rfl, hb⟩
   refine ⟨_, rfl, ?_⟩
   replace BK179 := Aside0.mk (blk_below (g := gb179) (o := .cells #[.string a0_0, .int .i64 a0_1, .string a0_2, .int .i64 a0_3, .bool false] 88 (0, 0)) bk hb)
   replace BK180 := Aside0.mk (blk_below (g := gb180) (o := .cells #[.string a1_0, .int .i64 a1_1] 42 (0, 0)) bk hb)
   replace HB := Aside0.mk (below_step bz hb)
   (try clear hb)
   (try clear hb2)
   (try clear hk)
   (try clear hi)
   refine hK.out _ _ ⟨(blk_cell BK180.out 0).trans rfl, (blk_cell BK180.out 1).trans rfl, (blk_cell BK179.out 0).trans rfl, (blk_cell BK179.out 1).trans rfl, (blk_cell BK179.out 2).trans rfl, (blk_cell BK179.out 3).trans rfl, (blk_cell BK179.out 4).trans rfl⟩ (fun hHeld => ?_)
   clear hK K
   refine norm_ (a' := ?_) ?_ ?_
   rotate_left
   ·show Act.put _ (some 10) _ = _
    simp only [Act.put, List.setIfInBounds_toArray, List.set_cons_zero, List.set_cons_succ, i64_w, i32_w]
    rfl
   refine one_ (i := 7) (N := some 14) #[true, true, true, true, true, true, true, true, false, false] rfl rfl (one_of HT_.out (by kernel_rfl)) (by decide) (fun K hK => ?_)
   refine goes_ Tryz.func53 (by kernel_rfl) rfl #[.agg #[.string a1_0, .int .i64 a1_1], .agg #[.string a0_2, .int .i64 a0_3]] (by rfl) rfl rfl lz ?_
   with_reducible refine (short_cmp.calls k a1_0 a1_1 a0_2 a0_3 t182 _ A4.out).mono ?_
   rintro e w55 ⟨rfl, hb⟩
   refine ⟨_, rfl, ?_⟩
   replace BK179 := Aside0.mk (blk_below (g := gb179) (o := .cells #[.string a0_0, .int .i64 a0_1, .string a0_2, .int .i64 a0_3, .bool false] 88 (0, 0)) bk hb)
   replace BK180 := Aside0.mk (blk_below (g := gb180) (o := .cells #[.string a1_0, .int .i64 a1_1] 42 (0, 0)) bk hb)
   replace HB := Aside0.mk (below_step bz hb)
   (try clear hb)
   (try clear hb2)
   (try clear hk)
   (try clear hi)
   refine hK.out _ _ ⟨(blk_cell BK180.out 0).trans rfl, (blk_cell BK180.out 1).trans rfl, (blk_cell BK179.out 0).trans rfl, (blk_cell BK179.out 1).trans rfl, (blk_cell BK179.out 2).trans rfl, (blk_cell BK179.out 3).trans rfl, (blk_cell BK179.out 4).trans rfl⟩ (fun hHeld => ?_)
   clear hK K
   refine norm_ (a' := ?_) ?_ ?_
   rotate_left
   ·show Act.put _ (some 14) _ = _
    simp only [Act.put, List.setIfInBounds_toArray, List.set_cons_zero, List.set_cons_succ, i64_w, i32_w]
    rfl
   refine pure_ (i := 8) (N := some 5) (v := ?_) (a' := ?_) #[true, true, true, true, true, true, true, true, true, false] rfl rfl (any_of HT_.out (by kernel_rfl)) (fun _ _ _ h => h) (Or.inl ⟨by rfl, ?_⟩) ?_ ?_
   rotate_left
   ·intro w'
    go_simp
    with_reducible rfl
   rotate_left
   ·simp only [Act.put, List.setIfInBounds_toArray, List.set_cons_zero, List.set_cons_succ, i64_w, i32_w]
    rfl
   refine pure_ (i := 9) (N := some 6) (v := ?_) (a' := ?_) #[true, true, true, true, true, true, true, true, true, true] rfl rfl (any_of HT_.out (by kernel_rfl)) (fun _ _ _ h => h) (Or.inl ⟨by rfl, ?_⟩) ?_ ?_
   rotate_left
   ·intro w'
    go_simp
    with_reducible rfl
   rotate_left
   ·simp only [Act.put, List.setIfInBounds_toArray, List.set_cons_zero, List.set_cons_succ, i64_w, i32_w]
    rfl
   refine done_ (done_of HT_.out (by kernel_rfl)) ?_
   have hnb56 := NB179_180.out
   have hnc56 := NB180_179.out
   obtain ⟨hcz57_0, hcz57_1, hcz57_2, hcz57_3, hcz57_4, hfz57_0, hfz57_1, hfz57_2, hfz57_3, hfz57_4⟩ := cz5 (W := w55) BK179
   try go_wp2
   go_ret
   exact ⟨ez, bz⟩
end Go.Proofs.YtecpgdfnamkfdaaGreatDoor.Fn
end
section
namespace Go.Proofs.YtecpgdfnamkfdaaGreatDoor.Fn
open Go.RowKit Go.Proofs.YtecpgdfnamkfdaaGreatDoorW.PrintWords Go.Proofs.YtecpgdfnamkfdaaGreatDoorW.PrintLast Go.Proofs.YtecpgdfnamkfdaaGreatDoorW.PrintMore
attribute [local go_sem] fnW_0 fnW_1 fnW_2 fnW_3 fnW_4 fnW_5 fnW_guard fnW_eql max2_int min2_int max_two min_two
set_option linter.unusedVariables false
set_option linter.unusedSimpArgs false
def short_best.l0 : Nat → Int → ByteArray → Int → ByteArray → Int → Bool → ByteArray → Int → ByteArray → Int → Option (ByteArray × Int × Bool)
 | 0, _, _, _, _, _, _, _, _, _, _ => none
 | k + 1, x59, x310000, x310001, x310002, x310003, x310004, x327000, x327001, x327002, x327003 => if x59 < 2 then (if x59 = 0 then ((short_span_in.f k x310000 x310001 x310002 x310003 x310004 x327000 x327001).bind fun t328 => (if t328 = true then (some (x327000, x327001, true)) else (short_best.l0 k (wrap64 (x59 + 1)) x310000 x310001 x310002 x310003 x310004 x327000 x327001 x327002 x327003))) else (if x59 = 1 then ((short_span_in.f k x310000 x310001 x310002 x310003 x310004 x327002 x327003).bind fun t330 => (if t330 = true then (some (x327002, x327003, true)) else (short_best.l0 k (wrap64 (x59 + 1)) x310000 x310001 x310002 x310003 x310004 x327000 x327001 x327002 x327003))) else (none))) else (some ((⟨#[]⟩ : ByteArray), 0, false))
def short_best.f (k : Nat) (a0_0 : ByteArray) (a0_1 : Int) (a1 : Int) (a2_0 : ByteArray) (a2_1 : Int) (a2_2 : ByteArray) (a2_3 : Int) (a2_4 : Bool) : Option (ByteArray × Int × Bool) := if a1 ≥ (a0_0.size : Int) then (some (a0_0, a0_1, true)) else ((bigdec_Round.f k a0_0 a0_1 a1).bind fun bt312 => ((short_span_in.f k a2_0 a2_1 a2_2 a2_3 a2_4 bt312.1 bt312.2.1).bind fun t316 => (if t316 = true then (some (bt312.1, bt312.2.1, true)) else (if 0 ≤ a1 then (if a1 ≤ (a0_0.size : Int) then ((bigdec_Norm.f k (a0_0.extract 0 (a1 : Int).toNat) a0_1).bind fun bt318 => ((bigdec_Add.f k bt318.1 bt318.2.1 (⟨#[49]⟩ : ByteArray) (wrap64 ((wrap64 (a0_1 - a1)) + 1))).bind fun bt322 => (short_best.l0 k 0 a2_0 a2_1 a2_2 a2_3 a2_4 bt318.1 bt318.2.1 bt322.1 bt322.2.1))) else (none)) else (none)))))
def short_best.T7 : Bool × List (List Nat × List Nat) := (true, [([], []), ([0], [0]), ([], []), ([1, 2], [1, 2]), ([], []), ([4], [4]), ([3, 5], [3, 5]), ([6], [6]), ([7], [7]), ([8], [8]), ([8], [8]), ([], []), ([11, 9, 7, 0, 1, 2, 3, 4, 5, 6, 7, 8, 9, 11], [9, 11]), ([10, 12, 0, 1, 2, 3, 4, 5, 6, 7, 8, 9, 10, 11, 12], [10])])
def short_best.B7 : List Nat := [0, 1, 0, 7, 0, 16, 63, 127, 255, 511, 511, 0, 3071, 8191]
theorem short_best.tab7 : rtab .any (opsOf Tryz.f57 7) = short_best.T7 := by kernel_rfl
theorem short_best.bits7 : waitsOk short_best.T7.2 short_best.B7 = true := by kernel_rfl
set_option maxHeartbeats 8000000 in
set_option maxRecDepth 100000 in
theorem short_best.calls (k : Nat) (a0_0 : ByteArray) (a0_1 : Int) (a1 : Int) (a2_0 : ByteArray) (a2_1 : Int) (a2_2 : ByteArray) (a2_3 : Int) (a2_4 : Bool) (r1 : ByteArray) (r2 : Int) (r3 : Bool) (w : World) (h : short_best.f k a0_0 a0_1 a1 a2_0 a2_1 a2_2 a2_3 a2_4 = some (r1, r2, r3)) :
  Calls Tryz.prog 57 #[.agg #[.string a0_0, .int .i64 a0_1], .int .i64 a1, .func (.func 56) #[.agg #[.string a2_0, .int .i64 a2_1, .string a2_2, .int .i64 a2_3, .bool a2_4]] #[]] w fun e w' => e = .returned (.tuple #[.agg #[.string r1, .int .i64 r2], .bool r3]) ∧ Below w.heap.size w w' := by
 have hu42 := Tryz.underlying42
 have hu119 := Tryz.underlying119
 have HB := Aside0.mk (Below.refl w.heap.size w)
 have H : (if a1 ≥ (a0_0.size : Int) then (some (a0_0, a0_1, true)) else ((bigdec_Round.f k a0_0 a0_1 a1).bind fun bt312 => ((short_span_in.f k a2_0 a2_1 a2_2 a2_3 a2_4 bt312.1 bt312.2.1).bind fun t316 => (if t316 = true then (some (bt312.1, bt312.2.1, true)) else (if 0 ≤ a1 then (if a1 ≤ (a0_0.size : Int) then ((bigdec_Norm.f k (a0_0.extract 0 (a1 : Int).toNat) a0_1).bind fun bt318 => ((bigdec_Add.f k bt318.1 bt318.2.1 (⟨#[49]⟩ : ByteArray) (wrap64 ((wrap64 (a0_1 - a1)) + 1))).bind fun bt322 => (short_best.l0 k 0 a2_0 a2_1 a2_2 a2_3 a2_4 bt318.1 bt318.2.1 bt322.1 bt322.2.1))) else (none)) else (none)))))) = some (r1, r2, r3) := h
 clear h
 go_enter Tryz.func57, Tryz.ntmps57
 go_upto_if 21 with (first | ((with_reducible refine gate_dst (N := 3) rfl ?_); refine box_event rfl (N := 3) rfl (cs := #[.string a0_0, .int .i64 a0_1]) (t := 42) gz ?_; intro gb310 hg w4 hbox hb; have GE310 := gN bz hg; have BK310 := Aside0.mk hbox; replace HB := bN bz hb; clear hb hbox hg) | ((with_reducible refine gate_dst (N := 6) rfl ?_); refine box_event rfl (N := 6) rfl (cs := #[.string (⟨#[]⟩ : ByteArray), .int .i64 0]) (t := 42) gz ?_; intro gb311 hg w5 hbox hb; have GE311 := gN bz hg; have NB310_311 := lN (g := gb310) (cs := #[.string a0_0, .int .i64 a0_1]) hg bk; have NB311_310 := rN (g := gb310) (cs := #[.string a0_0, .int .i64 a0_1]) hg bk; replace BK310 := kN (g := gb310) (cs := #[.string a0_0, .int .i64 a0_1]) hb bk; have BK311 := Aside0.mk hbox; replace HB := bN bz hb; clear hb hbox hg; have hnb6 := NB310_311.out; have hnc6 := NB311_310.out; obtain ⟨hcz7_0, hcz7_1, hfz7_0, hfz7_1⟩ := cz2 (W := w5) BK310))
 (try simp only [Act.put, List.setIfInBounds_toArray, List.set_cons_zero, List.set_cons_succ])
 by_cases c8 : a1 ≥ (a0_0.size : Int)
 ·replace H := hE H c8
  have c8b0 : decide ((a0_0.size : Int) ≤ a1) = true := decide_eq_true c8
  clear c8
  try rw [c8b0]
  simp only [Option.some.injEq, Prod.mk.injEq] at H
  obtain ⟨rfl, rfl, rfl⟩ := H
  have hnb9 := NB310_311.out
  have hnc9 := NB311_310.out
  obtain ⟨hcz10_0, hcz10_1, hfz10_0, hfz10_1⟩ := cz2 (W := w5) BK310
  obtain ⟨hcz11_0, hcz11_1, hfz11_0, hfz11_1⟩ := cz2 (W := w5) BK311
  go_wp2
  refine bodyPost_ret (results_ct rfl _ _ gb311 42 #[.string a0_0, .int .i64 a0_1] (0, 0) _ rfl bk Tryz.underlying42 rfl (by kernel_rfl)) rfl ?_
  exact ⟨ez, bz⟩
 ·replace H := hN H c8
  have c8b0 : decide ((a0_0.size : Int) ≤ a1) = false := decide_eq_false c8
  clear c8
  try rw [c8b0]
  replace H := bs H
  obtain ⟨⟨t312, t313, t314⟩, A12, H⟩ := H
  dsimp only at H
  replace H := bs H
  obtain ⟨t316, A13, H⟩ := H
  have hnb14 := NB310_311.out
  have hnc14 := NB311_310.out
  obtain ⟨hcz15_0, hcz15_1, hfz15_0, hfz15_1⟩ := cz2 (W := w5) BK310
  go_upto_if 31 with (first | ((with_reducible refine gate_callee (f := 32) rfl ?_); refine goesL_ (some 26) rfl rfl Tryz.func32 (by kernel_rfl) rfl #[.agg #[.string a0_0, .int .i64 a0_1], .int .i64 a1] rfl lz ?_; (with_reducible refine (bigdec_Round.calls k a0_0 a0_1 a1 t312 t313 t314 _ A12.out).mono ?_); rintro e w16 ⟨rfl, hb⟩; refine ⟨_, rfl, ?_⟩; replace BK310 := kN (g := gb310) (cs := #[.string a0_0, .int .i64 a0_1]) hb bk; replace BK311 := kN (g := gb311) (cs := #[.string (⟨#[]⟩ : ByteArray), .int .i64 0]) hb bk; replace HB := bN bz hb; (try clear hb); (try clear hb2); (try clear hk); (try clear hi)) | ((with_reducible refine gate_dst (N := 8) rfl ?_); refine box_event rfl (N := 8) rfl (cs := #[.string (⟨#[]⟩ : ByteArray), .int .i64 0]) (t := 42) gz ?_; intro gb315 hg w17 hbox hb; have GE315 := gN bz hg; have NB310_315 := lN (g := gb310) (cs := #[.string a0_0, .int .i64 a0_1]) hg bk; have NB315_310 := rN (g := gb310) (cs := #[.string a0_0, .int .i64 a0_1]) hg bk; have NB311_315 := lN (g := gb311) (cs := #[.string (⟨#[]⟩ : ByteArray), .int .i64 0]) hg bk; have NB315_311 := rN (g := gb311) (cs := #[.string (⟨#[]⟩ : ByteArray), .int .i64 0]) hg bk; replace BK310 := kN (g := gb310) (cs := #[.string a0_0, .int .i64 a0_1]) hb bk; replace BK311 := kN (g := gb311) (cs := #[.string (⟨#[]⟩ : ByteArray), .int .i64 0]) hb bk; have BK315 := Aside0.mk hbox; replace HB := bN bz hb; clear hb hbox hg; have hnb18 := NB315_310.out; have hnc18 := NB310_315.out; have hnb19 := NB315_311.out; have hnc19 := NB311_315.out; obtain ⟨hcz20_0, hcz20_1, hfz20_0, hfz20_1⟩ := cz2 (W := w17) BK315) | (go_at_call 56; (with_reducible refine (short_span_in.calls k a2_0 a2_1 a2_2 a2_3 a2_4 t312 t313 t316 _ A13.out).mono ?_); rintro e w21 ⟨rfl, hb⟩; replace BK310 := kN (g := gb310) (cs := #[.string a0_0, .int .i64 a0_1]) hb bk; replace BK311 := kN (g := gb311) (cs := #[.string (⟨#[]⟩ : ByteArray), .int .i64 0]) hb bk; replace BK315 := kN (g := gb315) (cs := #[.string t312, .int .i64 t313]) hb bk; replace HB := bN bz hb; (try clear hb); (try clear hb2); (try clear hk); (try clear hi)))
  (try simp only [Act.put, List.setIfInBounds_toArray, List.set_cons_zero, List.set_cons_succ])
  by_cases c22 : t316 = true
  ·subst c22
   replace H := hT H
   simp only [Option.some.injEq, Prod.mk.injEq] at H
   obtain ⟨rfl, rfl, rfl⟩ := H
   have hnb23 := NB315_310.out
   have hnc23 := NB310_315.out
   have hnb24 := NB315_311.out
   have hnc24 := NB311_315.out
   obtain ⟨hcz25_0, hcz25_1, hfz25_0, hfz25_1⟩ := cz2 (W := w21) BK315
   have hnb26 := NB311_310.out
   have hnc26 := NB310_311.out
   obtain ⟨hcz27_0, hcz27_1, hfz27_0, hfz27_1⟩ := cz2 (W := w21) BK311
   go_wp2
   refine bodyPost_ret (results_ct rfl _ _ gb311 42 #[.string t312, .int .i64 t313] (0, 0) _ rfl bk Tryz.underlying42 rfl (by kernel_rfl)) rfl ?_
   exact ⟨ez, bz⟩
  ·replace c22 := Bool.eq_false_iff.mpr c22
   subst c22
   replace H := hF H
   by_cases c28 : 0 ≤ a1
   ·replace H := hE H c28
    have c28b0 := eq_true c28
    have c28b1 : decide (0 ≤ a1) = true := decide_eq_true c28
    clear c28
    by_cases c29 : a1 ≤ (a0_0.size : Int)
    ·replace H := hE H c29
     have c29b0 := eq_true c29
     have c29b1 : decide (a1 ≤ (a0_0.size : Int)) = true := decide_eq_true c29
     clear c29
     replace H := bs H
     obtain ⟨⟨t318, t319, t320⟩, A30, H⟩ := H
     dsimp only at H
     replace H := bs H
     obtain ⟨⟨t322, t323, t324⟩, A31, H⟩ := H
     dsimp only at H
     have H' := Aside0.mk H
     clear H
     have hnb32 := NB310_311.out
     have hnc32 := NB311_310.out
     have hnb33 := NB310_315.out
     have hnc33 := NB315_310.out
     obtain ⟨hcz34_0, hcz34_1, hfz34_0, hfz34_1⟩ := cz2 (W := w21) BK310
     try go_wp2_with (first | ((with_reducible refine gate_dst (N := 10) rfl ?_); refine box_event rfl (N := 10) rfl (cs := #[.string (⟨#[]⟩ : ByteArray), .int .i64 0]) (t := 42) gz ?_; intro gb317 hg w35 hbox hb; have GE317 := gN bz hg; have NB310_317 := lN (g := gb310) (cs := #[.string a0_0, .int .i64 a0_1]) hg bk; have NB317_310 := rN (g := gb310) (cs := #[.string a0_0, .int .i64 a0_1]) hg bk; have NB311_317 := lN (g := gb311) (cs := #[.string (⟨#[]⟩ : ByteArray), .int .i64 0]) hg bk; have NB317_311 := rN (g := gb311) (cs := #[.string (⟨#[]⟩ : ByteArray), .int .i64 0]) hg bk; have NB315_317 := lN (g := gb315) (cs := #[.string t312, .int .i64 t313]) hg bk; have NB317_315 := rN (g := gb315) (cs := #[.string t312, .int .i64 t313]) hg bk; replace BK310 := kN (g := gb310) (cs := #[.string a0_0, .int .i64 a0_1]) hb bk; replace BK311 := kN (g := gb311) (cs := #[.string (⟨#[]⟩ : ByteArray), .int .i64 0]) hb bk; replace BK315 := kN (g := gb315) (cs := #[.string t312, .int .i64 t313]) hb bk; have BK317 := Aside0.mk hbox; replace HB := bN bz hb; clear hb hbox hg; have hnb36 := NB317_310.out; have hnc36 := NB310_317.out; have hnb37 := NB317_311.out; have hnc37 := NB311_317.out; have hnb38 := NB317_315.out; have hnc38 := NB315_317.out; obtain ⟨hcz39_0, hcz39_1, hfz39_0, hfz39_1⟩ := cz2 (W := w35) BK317))
     have n0_ : Aside0 (((w35.setCell ⟨gb317, 0, none⟩ (.string (⟨#[49]⟩ : ByteArray))).setCell ⟨gb317, 1, none⟩ (.int .i64 (wrap64 ((wrap64 (a0_1 - a1)) + 1)))).heap[gb310]? = some (.cells #[.string a0_0, .int .i64 a0_1] 42 (0, 0))) := ⟨bk⟩
     have n1_ : Aside0 (((w35.setCell ⟨gb317, 0, none⟩ (.string (⟨#[49]⟩ : ByteArray))).setCell ⟨gb317, 1, none⟩ (.int .i64 (wrap64 ((wrap64 (a0_1 - a1)) + 1)))).heap[gb311]? = some (.cells #[.string (⟨#[]⟩ : ByteArray), .int .i64 0] 42 (0, 0))) := ⟨bk⟩
     have n2_ : Aside0 (((w35.setCell ⟨gb317, 0, none⟩ (.string (⟨#[49]⟩ : ByteArray))).setCell ⟨gb317, 1, none⟩ (.int .i64 (wrap64 ((wrap64 (a0_1 - a1)) + 1)))).heap[gb315]? = some (.cells #[.string t312, .int .i64 t313] 42 (0, 0))) := ⟨bk⟩
     have n3_ : Aside0 (((w35.setCell ⟨gb317, 0, none⟩ (.string (⟨#[49]⟩ : ByteArray))).setCell ⟨gb317, 1, none⟩ (.int .i64 (wrap64 ((wrap64 (a0_1 - a1)) + 1)))).heap[gb317]? = some (.cells #[.string (⟨#[49]⟩ : ByteArray), .int .i64 (wrap64 ((wrap64 (a0_1 - a1)) + 1))] 42 (0, 0))) := ⟨bk⟩
     have n4_ : Aside0 (Below w.heap.size w ((w35.setCell ⟨gb317, 0, none⟩ (.string (⟨#[49]⟩ : ByteArray))).setCell ⟨gb317, 1, none⟩ (.int .i64 (wrap64 ((wrap64 (a0_1 - a1)) + 1))))) := ⟨bz⟩
     (try clear BK310)
     (try clear BK311)
     (try clear BK315)
     (try clear BK317)
     (try clear HB)
     generalize ((w35.setCell ⟨gb317, 0, none⟩ (.string (⟨#[49]⟩ : ByteArray))).setCell ⟨gb317, 1, none⟩ (.int .i64 (wrap64 ((wrap64 (a0_1 - a1)) + 1)))) = w40 at n0_ n1_ n2_ n3_ n4_ ⊢
     have BK310 := n0_
     have BK311 := n1_
     have BK315 := n2_
     have BK317 := n3_
     have HB := n4_
     clear n0_ n1_ n2_ n3_ n4_
     replace BK310 := Aside0.mk (blk_drew BK310.out)
     replace BK311 := Aside0.mk (blk_drew BK311.out)
     replace BK315 := Aside0.mk (blk_drew BK315.out)
     replace BK317 := Aside0.mk (blk_drew BK317.out)
     replace HB := Aside0.mk (below_drew1 HB.out)
     refine start_ (n := 14) (S := fun w' => w'.cell? ⟨gb310, 0, none⟩ = some (.string a0_0) ∧ w'.cell? ⟨gb310, 1, none⟩ = some (.int .i64 a0_1)) (ds := []) #[false, false, false, false, false, false, false, false, false, false, false, false, false, false] (by kernel_rfl) rfl rfl ⟨(blk_cell BK310.out 0).trans rfl, (blk_cell BK310.out 1).trans rfl⟩ (fun hHeld => ?_); refine with_tabW short_best.tab7 short_best.bits7 (fun HT_ HW_ => ?_)
     generalize w40.drew = w41 at BK310 BK311 BK315 BK317 HB hHeld ⊢
     refine pure_ (i := 0) (N := some 40) (v := ?_) (a' := ?_) #[true, false, false, false, false, false, false, false, false, false, false, false, false, false] rfl rfl (any_of HT_.out (by kernel_rfl)) (fun _ _ _ h => h) (Or.inl ⟨by rfl, ?_⟩) ?_ ?_
     rotate_left
     ·intro w'
      go_simp
      with_reducible rfl
     rotate_left
     ·simp only [Act.put, List.setIfInBounds_toArray, List.set_cons_zero, List.set_cons_succ, i64_w, i32_w]
      rfl
     refine pure_ (i := 2) (N := some 42) (v := ?_) (a' := ?_) #[true, false, true, false, false, false, false, false, false, false, false, false, false, false] rfl rfl (any_of HT_.out (by kernel_rfl)) (fun _ _ _ h => h) (Or.inl ⟨by rfl, ?_⟩) ?_ ?_
     rotate_left
     ·intro w'
      go_simp
      with_reducible rfl
     rotate_left
     ·simp only [Act.put, List.setIfInBounds_toArray, List.set_cons_zero, List.set_cons_succ, i64_w, i32_w]
      rfl
     refine pure_ (i := 4) (N := some 44) (v := ?_) (a' := ?_) #[true, false, true, false, true, false, false, false, false, false, false, false, false, false] rfl rfl (any_of HT_.out (by kernel_rfl)) (fun _ _ _ h => h) (Or.inl ⟨by rfl, ?_⟩) ?_ ?_
     rotate_left
     ·intro w'
      go_simp
      with_reducible rfl
     rotate_left
     ·simp only [Act.put, List.setIfInBounds_toArray, List.set_cons_zero, List.set_cons_succ, i64_w, i32_w]
      rfl
     refine take_ (i := 1) (N := some 41) (v := ?_) (a' := ?_) #[true, true, true, false, true, false, false, false, false, false, false, false, false, false] rfl rfl (take_ofW HT_.out HW_.out (by kernel_rfl)) (fun _ _ _ h => h) (Or.inl ⟨by rfl, ?_⟩) hHeld ?_ ?_
     rotate_left
     ·rintro w' ⟨s0, s1⟩
      go_simp
      with_reducible rfl
     rotate_left
     ·simp only [Act.put, List.setIfInBounds_toArray, List.set_cons_zero, List.set_cons_succ, i64_w, i32_w]
      rfl
     refine pure_ (i := 3) (N := some 43) (v := ?_) (a' := ?_) #[true, true, true, true, true, false, false, false, false, false, false, false, false, false] rfl rfl (any_of HT_.out (by kernel_rfl)) (fun _ _ _ h => h) (Or.inl ⟨by rfl, ?_⟩) ?_ ?_
     rotate_left
     ·intro w'
      go_simp
      with_reducible rfl
     rotate_left
     ·simp only [Act.put, List.setIfInBounds_toArray, List.set_cons_zero, List.set_cons_succ, i64_w, i32_w]
      rfl
     refine take_ (i := 5) (N := some 45) (v := ?_) (a' := ?_) #[true, true, true, true, true, true, false, false, false, false, false, false, false, false] rfl rfl (take_ofW HT_.out HW_.out (by kernel_rfl)) (fun _ _ _ h => h) (Or.inl ⟨by rfl, ?_⟩) hHeld ?_ ?_
     rotate_left
     ·rintro w' ⟨s0, s1⟩
      go_simp
      with_reducible rfl
     rotate_left
     ·simp only [Act.put, List.setIfInBounds_toArray, List.set_cons_zero, List.set_cons_succ, i64_w, i32_w]
      rfl
     refine pure_ (i := 6) (N := some 46) (v := ?_) (a' := ?_) #[true, true, true, true, true, true, true, false, false, false, false, false, false, false] rfl rfl (any_of HT_.out (by kernel_rfl)) (fun _ _ _ h => h) (Or.inl ⟨by rfl, ?_⟩) ?_ ?_
     rotate_left
     ·intro w'
      go_simp
      with_reducible rfl
     rotate_left
     ·simp only [Act.put, List.setIfInBounds_toArray, List.set_cons_zero, List.set_cons_succ, i64_w, i32_w]
      rfl
     refine join_ (σ := Nat) 2 #[true, true, true, true, true, true, true, true, true, true, true, true, false, false] (fun s_ => [(47, .tuple #[.agg #[.string t318, .int .i64 t319], .int .i64 t320]), (11, .pointer (some ⟨s_, 0, none⟩)), (39, .tuple #[.agg #[.string t318, .int .i64 t319], .int .i64 t320]), (48, .agg #[.string t318, .int .i64 t319]), (49, .int .i64 t320)]) (fun s_ w' => (w'.cell? ⟨gb310, 0, none⟩ = some (.string a0_0) ∧ w'.cell? ⟨gb310, 1, none⟩ = some (.int .i64 a0_1)) ∧ (w'.heap[gb310]? = some (.cells #[.string a0_0, .int .i64 a0_1] 42 (0, 0))) ∧ (w'.heap[gb311]? = some (.cells #[.string (⟨#[]⟩ : ByteArray), .int .i64 0] 42 (0, 0))) ∧ (w'.heap[gb315]? = some (.cells #[.string t312, .int .i64 t313] 42 (0, 0))) ∧ (w'.heap[gb317]? = some (.cells #[.string (⟨#[49]⟩ : ByteArray), .int .i64 (wrap64 ((wrap64 (a0_1 - a1)) + 1))] 42 (0, 0))) ∧ (w'.heap[s_]? = some (.cells #[.string (⟨#[]⟩ : ByteArray), .int .i64 0] 42 (0, 0))) ∧ (w.heap.size ≤ s_) ∧ (w.heap.size ≤ s_) ∧ (gb310 ≠ s_) ∧ (s_ ≠ gb310) ∧ (gb311 ≠ s_) ∧ (s_ ≠ gb311) ∧ (gb315 ≠ s_) ∧ (s_ ≠ gb315) ∧ (gb317 ≠ s_) ∧ (s_ ≠ gb317) ∧ (Below w.heap.size w w')) ?_ ?_
     rotate_left
     ·intro hCont
      refine two_ (i := 7) (j := 11) (Ni := some 47) (Nj := some 11) #[true, true, true, true, true, true, true, true, false, false, false, false, false, false] #[true, true, true, true, true, true, true, false, false, false, false, true, false, false] rfl rfl rfl rfl (two_of HT_.out (by kernel_rfl)) (by decide) (by decide) (fun K hK => ?_) (fun K hK => ?_)
      ·skip
       refine goes_ Tryz.func50 (by kernel_rfl) rfl #[.agg #[.string (a0_0.extract 0 (a1 : Int).toNat), .int .i64 a0_1]] (by rfl) rfl rfl lz ?_
       with_reducible refine (bigdec_Norm.calls k (a0_0.extract 0 (a1 : Int).toNat) a0_1 t318 t319 t320 _ A30.out).mono ?_
       rintro e w42 ⟨rfl, hb⟩
       refine ⟨_, rfl, ?_⟩
       replace BK310 := Aside0.mk (blk_below (g := gb310) (o := .cells #[.string a0_0, .int .i64 a0_1] 42 (0, 0)) bk hb)
       replace BK311 := Aside0.mk (blk_below (g := gb311) (o := .cells #[.string (⟨#[]⟩ : ByteArray), .int .i64 0] 42 (0, 0)) bk hb)
       replace BK315 := Aside0.mk (blk_below (g := gb315) (o := .cells #[.string t312, .int .i64 t313] 42 (0, 0)) bk hb)
       replace BK317 := Aside0.mk (blk_below (g := gb317) (o := .cells #[.string (⟨#[49]⟩ : ByteArray), .int .i64 (wrap64 ((wrap64 (a0_1 - a1)) + 1))] 42 (0, 0)) bk hb)
       replace HB := Aside0.mk (below_step bz hb)
       (try clear hb)
       (try clear hb2)
       (try clear hk)
       (try clear hi)
       refine hK.out _ _ ⟨(blk_cell BK310.out 0).trans rfl, (blk_cell BK310.out 1).trans rfl⟩ (fun hHeld => ?_)
       clear hK K
       refine norm_ (a' := ?_) ?_ ?_
       rotate_left
       ·show Act.put _ (some 47) _ = _
        simp only [Act.put, List.setIfInBounds_toArray, List.set_cons_zero, List.set_cons_succ, i64_w, i32_w]
        rfl
       refine pure_ (i := 8) (N := some 39) (v := ?_) (a' := ?_) #[true, true, true, true, true, true, true, true, true, false, false, false, false, false] rfl rfl (any_of HT_.out (by kernel_rfl)) (fun _ _ _ h => h) (Or.inl ⟨by rfl, ?_⟩) ?_ ?_
       rotate_left
       ·intro w'
        go_simp
        with_reducible rfl
       rotate_left
       ·simp only [Act.put, List.setIfInBounds_toArray, List.set_cons_zero, List.set_cons_succ, i64_w, i32_w]
        rfl
       refine pure_ (i := 9) (N := some 48) (v := ?_) (a' := ?_) #[true, true, true, true, true, true, true, true, true, true, false, false, false, false] rfl rfl (any_of HT_.out (by kernel_rfl)) (fun _ _ _ h => h) (Or.inl ⟨by rfl, ?_⟩) ?_ ?_
       rotate_left
       ·intro w'
        go_simp
        with_reducible rfl
       rotate_left
       ·simp only [Act.put, List.setIfInBounds_toArray, List.set_cons_zero, List.set_cons_succ, i64_w, i32_w]
        rfl
       refine pure_ (i := 10) (N := some 49) (v := ?_) (a' := ?_) #[true, true, true, true, true, true, true, true, true, true, true, false, false, false] rfl rfl (any_of HT_.out (by kernel_rfl)) (fun _ _ _ h => h) (Or.inl ⟨by rfl, ?_⟩) ?_ ?_
       rotate_left
       ·intro w'
        go_simp
        with_reducible rfl
       rotate_left
       ·simp only [Act.put, List.setIfInBounds_toArray, List.set_cons_zero, List.set_cons_succ, i64_w, i32_w]
        rfl
       refine one_ (i := 11) (N := some 11) #[true, true, true, true, true, true, true, true, true, true, true, true, false, false] rfl rfl (one_of HT_.out (by kernel_rfl)) (by decide) (fun K hK => ?_)
       refine box_step ?hg (N := 11) ?hd (cs := #[.string (⟨#[]⟩ : ByteArray), .int .i64 0]) (t := 42) ?hr ?_; (case hd => rfl); (case hg => rfl); (case hr => first | (go_simp; done) | (go_simp; rfl))
       intro gb321 hg w43 hbox hb
       have BK321 := Aside0.mk (hbox)
       have GW321 := Aside0.mk ((by rw [hg]; exact (below_size bz) : w.heap.size ≤ gb321))
       have GE321 := Aside0.mk ((by rw [hg]; exact (below_size bz) : w.heap.size ≤ gb321))
       have NB310_321 := Aside0.mk ((by rw [hg]; exact Nat.ne_of_lt (blk_lt (g := gb310) (o := .cells #[.string a0_0, .int .i64 a0_1] 42 (0, 0)) bk) : gb310 ≠ gb321))
       have NB321_310 := Aside0.mk ((by rw [hg]; exact Nat.ne_of_gt (blk_lt (g := gb310) (o := .cells #[.string a0_0, .int .i64 a0_1] 42 (0, 0)) bk) : gb321 ≠ gb310))
       have NB311_321 := Aside0.mk ((by rw [hg]; exact Nat.ne_of_lt (blk_lt (g := gb311) (o := .cells #[.string (⟨#[]⟩ : ByteArray), .int .i64 0] 42 (0, 0)) bk) : gb311 ≠ gb321))
       have NB321_311 := Aside0.mk ((by rw [hg]; exact Nat.ne_of_gt (blk_lt (g := gb311) (o := .cells #[.string (⟨#[]⟩ : ByteArray), .int .i64 0] 42 (0, 0)) bk) : gb321 ≠ gb311))
       have NB315_321 := Aside0.mk ((by rw [hg]; exact Nat.ne_of_lt (blk_lt (g := gb315) (o := .cells #[.string t312, .int .i64 t313] 42 (0, 0)) bk) : gb315 ≠ gb321))
       have NB321_315 := Aside0.mk ((by rw [hg]; exact Nat.ne_of_gt (blk_lt (g := gb315) (o := .cells #[.string t312, .int .i64 t313] 42 (0, 0)) bk) : gb321 ≠ gb315))
       have NB317_321 := Aside0.mk ((by rw [hg]; exact Nat.ne_of_lt (blk_lt (g := gb317) (o := .cells #[.string (⟨#[49]⟩ : ByteArray), .int .i64 (wrap64 ((wrap64 (a0_1 - a1)) + 1))] 42 (0, 0)) bk) : gb317 ≠ gb321))
       have NB321_317 := Aside0.mk ((by rw [hg]; exact Nat.ne_of_gt (blk_lt (g := gb317) (o := .cells #[.string (⟨#[49]⟩ : ByteArray), .int .i64 (wrap64 ((wrap64 (a0_1 - a1)) + 1))] 42 (0, 0)) bk) : gb321 ≠ gb317))
       replace BK310 := Aside0.mk (blk_below (g := gb310) (o := .cells #[.string a0_0, .int .i64 a0_1] 42 (0, 0)) bk hb)
       replace BK311 := Aside0.mk (blk_below (g := gb311) (o := .cells #[.string (⟨#[]⟩ : ByteArray), .int .i64 0] 42 (0, 0)) bk hb)
       replace BK315 := Aside0.mk (blk_below (g := gb315) (o := .cells #[.string t312, .int .i64 t313] 42 (0, 0)) bk hb)
       replace BK317 := Aside0.mk (blk_below (g := gb317) (o := .cells #[.string (⟨#[49]⟩ : ByteArray), .int .i64 (wrap64 ((wrap64 (a0_1 - a1)) + 1))] 42 (0, 0)) bk hb)
       replace HB := Aside0.mk (below_step bz hb)
       clear hb hbox hg
       refine hK.out _ _ ⟨(blk_cell BK310.out 0).trans rfl, (blk_cell BK310.out 1).trans rfl⟩ (fun hHeld => ?_)
       clear hK K
       refine norm_ (a' := ?_) ?_ ?_
       rotate_left
       ·show Act.put _ (some 11) _ = _
        simp only [Act.put, List.setIfInBounds_toArray, List.set_cons_zero, List.set_cons_succ, i64_w, i32_w]
        rfl
       exact norm_ (by simp only [putAll, Act.put, List.setIfInBounds_toArray, List.set_cons_zero, List.set_cons_succ]) (hCont (gb321) _ ⟨hHeld, bk, bk, bk, bk, bk, GW321.out, GE321.out, NB310_321.out, NB321_310.out, NB311_321.out, NB321_311.out, NB315_321.out, NB321_315.out, NB317_321.out, NB321_317.out, bz⟩)
      ·skip
       refine box_step ?hg (N := 11) ?hd (cs := #[.string (⟨#[]⟩ : ByteArray), .int .i64 0]) (t := 42) ?hr ?_; (case hd => rfl); (case hg => rfl); (case hr => first | (go_simp; done) | (go_simp; rfl))
       intro gb321 hg w42 hbox hb
       have BK321 := Aside0.mk (hbox)
       have GW321 := Aside0.mk ((by rw [hg]; exact (below_size bz) : w.heap.size ≤ gb321))
       have GE321 := Aside0.mk ((by rw [hg]; exact (below_size bz) : w.heap.size ≤ gb321))
       have NB310_321 := Aside0.mk ((by rw [hg]; exact Nat.ne_of_lt (blk_lt (g := gb310) (o := .cells #[.string a0_0, .int .i64 a0_1] 42 (0, 0)) bk) : gb310 ≠ gb321))
       have NB321_310 := Aside0.mk ((by rw [hg]; exact Nat.ne_of_gt (blk_lt (g := gb310) (o := .cells #[.string a0_0, .int .i64 a0_1] 42 (0, 0)) bk) : gb321 ≠ gb310))
       have NB311_321 := Aside0.mk ((by rw [hg]; exact Nat.ne_of_lt (blk_lt (g := gb311) (o := .cells #[.string (⟨#[]⟩ : ByteArray), .int .i64 0] 42 (0, 0)) bk) : gb311 ≠ gb321))
       have NB321_311 := Aside0.mk ((by rw [hg]; exact Nat.ne_of_gt (blk_lt (g := gb311) (o := .cells #[.string (⟨#[]⟩ : ByteArray), .int .i64 0] 42 (0, 0)) bk) : gb321 ≠ gb311))
       have NB315_321 := Aside0.mk ((by rw [hg]; exact Nat.ne_of_lt (blk_lt (g := gb315) (o := .cells #[.string t312, .int .i64 t313] 42 (0, 0)) bk) : gb315 ≠ gb321))
       have NB321_315 := Aside0.mk ((by rw [hg]; exact Nat.ne_of_gt (blk_lt (g := gb315) (o := .cells #[.string t312, .int .i64 t313] 42 (0, 0)) bk) : gb321 ≠ gb315))
       have NB317_321 := Aside0.mk ((by rw [hg]; exact Nat.ne_of_lt (blk_lt (g := gb317) (o := .cells #[.string (⟨#[49]⟩ : ByteArray), .int .i64 (wrap64 ((wrap64 (a0_1 - a1)) + 1))] 42 (0, 0)) bk) : gb317 ≠ gb321))
       have NB321_317 := Aside0.mk ((by rw [hg]; exact Nat.ne_of_gt (blk_lt (g := gb317) (o := .cells #[.string (⟨#[49]⟩ : ByteArray), .int .i64 (wrap64 ((wrap64 (a0_1 - a1)) + 1))] 42 (0, 0)) bk) : gb321 ≠ gb317))
       replace BK310 := Aside0.mk (blk_below (g := gb310) (o := .cells #[.string a0_0, .int .i64 a0_1] 42 (0, 0)) bk hb)
       replace BK311 := Aside0.mk (blk_below (g := gb311) (o := .cells #[.string (⟨#[]⟩ : ByteArray), .int .i64 0] 42 (0, 0)) bk hb)
       replace BK315 := Aside0.mk (blk_below (g := gb315) (o := .cells #[.string t312, .int .i64 t313] 42 (0, 0)) bk hb)
       replace BK317 := Aside0.mk (blk_below (g := gb317) (o := .cells #[.string (⟨#[49]⟩ : ByteArray), .int .i64 (wrap64 ((wrap64 (a0_1 - a1)) + 1))] 42 (0, 0)) bk hb)
       replace HB := Aside0.mk (below_step bz hb)
       clear hb hbox hg
       refine hK.out _ _ ⟨(blk_cell BK310.out 0).trans rfl, (blk_cell BK310.out 1).trans rfl⟩ (fun hHeld => ?_)
       clear hK K
       refine norm_ (a' := ?_) ?_ ?_
       rotate_left
       ·show Act.put _ (some 11) _ = _
        simp only [Act.put, List.setIfInBounds_toArray, List.set_cons_zero, List.set_cons_succ, i64_w, i32_w]
        rfl
       refine one_ (i := 7) (N := some 47) #[true, true, true, true, true, true, true, true, false, false, false, true, false, false] rfl rfl (one_of HT_.out (by kernel_rfl)) (by decide) (fun K hK => ?_)
       refine goes_ Tryz.func50 (by kernel_rfl) rfl #[.agg #[.string (a0_0.extract 0 (a1 : Int).toNat), .int .i64 a0_1]] (by rfl) rfl rfl lz ?_
       with_reducible refine (bigdec_Norm.calls k (a0_0.extract 0 (a1 : Int).toNat) a0_1 t318 t319 t320 _ A30.out).mono ?_
       rintro e w43 ⟨rfl, hb⟩
       refine ⟨_, rfl, ?_⟩
       replace BK310 := Aside0.mk (blk_below (g := gb310) (o := .cells #[.string a0_0, .int .i64 a0_1] 42 (0, 0)) bk hb)
       replace BK311 := Aside0.mk (blk_below (g := gb311) (o := .cells #[.string (⟨#[]⟩ : ByteArray), .int .i64 0] 42 (0, 0)) bk hb)
       replace BK315 := Aside0.mk (blk_below (g := gb315) (o := .cells #[.string t312, .int .i64 t313] 42 (0, 0)) bk hb)
       replace BK317 := Aside0.mk (blk_below (g := gb317) (o := .cells #[.string (⟨#[49]⟩ : ByteArray), .int .i64 (wrap64 ((wrap64 (a0_1 - a1)) + 1))] 42 (0, 0)) bk hb)
       replace BK321 := Aside0.mk (blk_below (g := gb321) (o := .cells #[.string (⟨#[]⟩ : ByteArray), .int .i64 0] 42 (0, 0)) bk hb)
       replace HB := Aside0.mk (below_step bz hb)
       (try clear hb)
       (try clear hb2)
       (try clear hk)
       (try clear hi)
       refine hK.out _ _ ⟨(blk_cell BK310.out 0).trans rfl, (blk_cell BK310.out 1).trans rfl⟩ (fun hHeld => ?_)
       clear hK K
       refine norm_ (a' := ?_) ?_ ?_
       rotate_left
       ·show Act.put _ (some 47) _ = _
        simp only [Act.put, List.setIfInBounds_toArray, List.set_cons_zero, List.set_cons_succ, i64_w, i32_w]
        rfl
       refine pure_ (i := 8) (N := some 39) (v := ?_) (a' := ?_) #[true, true, true, true, true, true, true, true, true, false, false, true, false, false] rfl rfl (any_of HT_.out (by kernel_rfl)) (fun _ _ _ h => h) (Or.inl ⟨by rfl, ?_⟩) ?_ ?_
       rotate_left
       ·intro w'
        go_simp
        with_reducible rfl
       rotate_left
       ·simp only [Act.put, List.setIfInBounds_toArray, List.set_cons_zero, List.set_cons_succ, i64_w, i32_w]
        rfl
       refine pure_ (i := 9) (N := some 48) (v := ?_) (a' := ?_) #[true, true, true, true, true, true, true, true, true, true, false, true, false, false] rfl rfl (any_of HT_.out (by kernel_rfl)) (fun _ _ _ h => h) (Or.inl ⟨by rfl, ?_⟩) ?_ ?_
       rotate_left
       ·intro w'
        go_simp
        with_reducible rfl
       rotate_left
       ·simp only [Act.put, List.setIfInBounds_toArray, List.set_cons_zero, List.set_cons_succ, i64_w, i32_w]
        rfl
       refine pure_ (i := 10) (N := some 49) (v := ?_) (a' := ?_) #[true, true, true, true, true, true, true, true, true, true, true, true, false, false] rfl rfl (any_of HT_.out (by kernel_rfl)) (fun _ _ _ h => h) (Or.inl ⟨by rfl, ?_⟩) ?_ ?_
       rotate_left
       ·intro w'
        go_simp
        with_reducible rfl
       rotate_left
       ·simp only [Act.put, List.setIfInBounds_toArray, List.set_cons_zero, List.set_cons_succ, i64_w, i32_w]
        rfl
       exact norm_ (by simp only [putAll, Act.put, List.setIfInBounds_toArray, List.set_cons_zero, List.set_cons_succ]) (hCont (gb321) _ ⟨hHeld, bk, bk, bk, bk, bk, GW321.out, GE321.out, NB310_321.out, NB321_310.out, NB311_321.out, NB321_311.out, NB315_321.out, NB321_315.out, NB317_321.out, NB321_317.out, bz⟩)
     rintro gb321 w44 ⟨hS_, h0_, h1_, h2_, h3_, h4_, h5_, h6_, h7_, h8_, h9_, h10_, h11_, h12_, h13_, h14_, h15_⟩
     have n0_ : Aside0 (w44.heap[gb310]? = some (.cells #[.string a0_0, .int .i64 a0_1] 42 (0, 0))) := ⟨h0_⟩
     have n1_ : Aside0 (w44.heap[gb311]? = some (.cells #[.string (⟨#[]⟩ : ByteArray), .int .i64 0] 42 (0, 0))) := ⟨h1_⟩
     have n2_ : Aside0 (w44.heap[gb315]? = some (.cells #[.string t312, .int .i64 t313] 42 (0, 0))) := ⟨h2_⟩
     have n3_ : Aside0 (w44.heap[gb317]? = some (.cells #[.string (⟨#[49]⟩ : ByteArray), .int .i64 (wrap64 ((wrap64 (a0_1 - a1)) + 1))] 42 (0, 0))) := ⟨h3_⟩
     have n4_ : Aside0 (w44.heap[gb321]? = some (.cells #[.string (⟨#[]⟩ : ByteArray), .int .i64 0] 42 (0, 0))) := ⟨h4_⟩
     have n5_ : Aside0 (w.heap.size ≤ gb321) := ⟨h5_⟩
     have n6_ : Aside0 (w.heap.size ≤ gb321) := ⟨h6_⟩
     have n7_ : Aside0 (gb310 ≠ gb321) := ⟨h7_⟩
     have n8_ : Aside0 (gb321 ≠ gb310) := ⟨h8_⟩
     have n9_ : Aside0 (gb311 ≠ gb321) := ⟨h9_⟩
     have n10_ : Aside0 (gb321 ≠ gb311) := ⟨h10_⟩
     have n11_ : Aside0 (gb315 ≠ gb321) := ⟨h11_⟩
     have n12_ : Aside0 (gb321 ≠ gb315) := ⟨h12_⟩
     have n13_ : Aside0 (gb317 ≠ gb321) := ⟨h13_⟩
     have n14_ : Aside0 (gb321 ≠ gb317) := ⟨h14_⟩
     have n15_ : Aside0 (Below w.heap.size w w44) := ⟨h15_⟩
     clear BK310
     clear BK311
     clear BK315
     clear BK317
     clear HB
     clear h0_ h1_ h2_ h3_ h4_ h5_ h6_ h7_ h8_ h9_ h10_ h11_ h12_ h13_ h14_ h15_
     have BK310 := n0_
     have BK311 := n1_
     have BK315 := n2_
     have BK317 := n3_
     have BK321 := n4_
     have GW321 := n5_
     have GE321 := n6_
     have NB310_321 := n7_
     have NB321_310 := n8_
     have NB311_321 := n9_
     have NB321_311 := n10_
     have NB315_321 := n11_
     have NB321_315 := n12_
     have NB317_321 := n13_
     have NB321_317 := n14_
     have HB := n15_
     clear n0_ n1_ n2_ n3_ n4_ n5_ n6_ n7_ n8_ n9_ n10_ n11_ n12_ n13_ n14_ n15_
     have hHeld : w44.cell? ⟨gb310, 0, none⟩ = some (.string a0_0) ∧ w44.cell? ⟨gb310, 1, none⟩ = some (.int .i64 a0_1) := hS_
     refine norm_ (a' := ?_) ?_ ?_
     rotate_left
     ·simp only [putAll, Act.put, List.setIfInBounds_toArray, List.set_cons_zero, List.set_cons_succ]
      rfl
     refine one_ (i := 12) (N := none) #[true, true, true, true, true, true, true, true, true, true, true, true, true, false] rfl rfl (one_of HT_.out (by kernel_rfl)) (by decide) (fun K hK => ?_)
     have hs45 : w44.cell? ⟨gb321, 0, none⟩ = some (.string (⟨#[]⟩ : ByteArray)) := (blk_cell BK321.out 0).trans rfl
     have hfs45 := blk_frozen BK321.out 0
     have hns45_0 := NB310_321.out
     have hns45_1 := NB311_321.out
     have hns45_2 := NB315_321.out
     have hns45_3 := NB317_321.out
     have hms45_0 := NB321_310.out
     have hms45_1 := NB321_311.out
     have hms45_2 := NB321_315.out
     have hms45_3 := NB321_317.out
     have hs46 : w44.cell? ⟨gb321, 1, none⟩ = some (.int .i64 0) := (blk_cell BK321.out 1).trans rfl
     have hfs46 := blk_frozen BK321.out 1
     have hns46_0 := NB310_321.out
     have hns46_1 := NB311_321.out
     have hns46_2 := NB315_321.out
     have hns46_3 := NB317_321.out
     have hms46_0 := NB321_310.out
     have hms46_1 := NB321_311.out
     have hms46_2 := NB321_315.out
     have hms46_3 := NB321_317.out
     refine skip_ (w1 := ?_) (by rfl) rfl ?_ ?_
     rotate_left
     ·go_simp
      rfl
     refine hK.out _ _ ⟨((cell_far (p := ⟨gb321, _, none⟩) NB310_321.out _).trans (((cell_far (p := ⟨gb321, _, none⟩) NB310_321.out _).trans (hHeld.1)))), ((cell_far (p := ⟨gb321, _, none⟩) NB310_321.out _).trans (((cell_far (p := ⟨gb321, _, none⟩) NB310_321.out _).trans (hHeld.2))))⟩ (fun hHeld => ?_)
     clear hK K
     refine pure_ (i := 13) (N := some 12) (v := ?_) (a' := ?_) #[true, true, true, true, true, true, true, true, true, true, true, true, true, true] rfl rfl (any_of HT_.out (by kernel_rfl)) (fun _ _ _ h => h) (Or.inl ⟨by rfl, ?_⟩) ?_ ?_
     rotate_left
     ·intro w'
      go_simp
      with_reducible rfl
     rotate_left
     ·simp only [Act.put, List.setIfInBounds_toArray, List.set_cons_zero, List.set_cons_succ, i64_w, i32_w]
      rfl
     refine done_ (done_of HT_.out (by kernel_rfl)) ?_
     have hnb47 := NB321_310.out
     have hnc47 := NB310_321.out
     have hnb48 := NB321_311.out
     have hnc48 := NB311_321.out
     have hnb49 := NB321_315.out
     have hnc49 := NB315_321.out
     have hnb50 := NB321_317.out
     have hnc50 := NB317_321.out
     obtain ⟨hcz51_0, hcz51_1, hfz51_0, hfz51_1⟩ := cz2 (W := w44) BK321
     obtain ⟨hcz52_0, hcz52_1, hfz52_0, hfz52_1⟩ := cz2 (W := w44) BK317
     try go_wp2_with (first | ((with_reducible refine gate_callee (f := 83) rfl ?_); refine goesL_ (some 53) rfl rfl Tryz.func83 (by kernel_rfl) rfl #[.agg #[.string t318, .int .i64 t319], .agg #[.string (⟨#[49]⟩ : ByteArray), .int .i64 (wrap64 ((wrap64 (a0_1 - a1)) + 1))]] rfl lz ?_; (with_reducible refine (bigdec_Add.calls k t318 t319 (⟨#[49]⟩ : ByteArray) (wrap64 ((wrap64 (a0_1 - a1)) + 1)) t322 t323 t324 _ A31.out).mono ?_); rintro e w53 ⟨rfl, hb⟩; refine ⟨_, rfl, ?_⟩; replace BK310 := kN (g := gb310) (cs := #[.string a0_0, .int .i64 a0_1]) hb bk; replace BK311 := kN (g := gb311) (cs := #[.string (⟨#[]⟩ : ByteArray), .int .i64 0]) hb bk; replace BK315 := kN (g := gb315) (cs := #[.string t312, .int .i64 t313]) hb bk; replace BK317 := kN (g := gb317) (cs := #[.string (⟨#[49]⟩ : ByteArray), .int .i64 (wrap64 ((wrap64 (a0_1 - a1)) + 1))]) hb bk; replace BK321 := kN (g := gb321) (cs := #[.string t318, .int .i64 t319]) hb bk; replace HB := bN bz hb; (try clear hb); (try clear hb2); (try clear hk); (try clear hi)) | ((with_reducible refine gate_dst (N := 13) rfl ?_); refine box_event rfl (N := 13) rfl (cs := #[.string (⟨#[]⟩ : ByteArray), .int .i64 0]) (t := 42) gz ?_; intro gb325 hg w54 hbox hb; have GE325 := gN bz hg; have NB310_325 := lN (g := gb310) (cs := #[.string a0_0, .int .i64 a0_1]) hg bk; have NB325_310 := rN (g := gb310) (cs := #[.string a0_0, .int .i64 a0_1]) hg bk; have NB311_325 := lN (g := gb311) (cs := #[.string (⟨#[]⟩ : ByteArray), .int .i64 0]) hg bk; have NB325_311 := rN (g := gb311) (cs := #[.string (⟨#[]⟩ : ByteArray), .int .i64 0]) hg bk; have NB315_325 := lN (g := gb315) (cs := #[.string t312, .int .i64 t313]) hg bk; have NB325_315 := rN (g := gb315) (cs := #[.string t312, .int .i64 t313]) hg bk; have NB317_325 := lN (g := gb317) (cs := #[.string (⟨#[49]⟩ : ByteArray), .int .i64 (wrap64 ((wrap64 (a0_1 - a1)) + 1))]) hg bk; have NB325_317 := rN (g := gb317) (cs := #[.string (⟨#[49]⟩ : ByteArray), .int .i64 (wrap64 ((wrap64 (a0_1 - a1)) + 1))]) hg bk; have NB321_325 := lN (g := gb321) (cs := #[.string t318, .int .i64 t319]) hg bk; have NB325_321 := rN (g := gb321) (cs := #[.string t318, .int .i64 t319]) hg bk; replace BK310 := kN (g := gb310) (cs := #[.string a0_0, .int .i64 a0_1]) hb bk; replace BK311 := kN (g := gb311) (cs := #[.string (⟨#[]⟩ : ByteArray), .int .i64 0]) hb bk; replace BK315 := kN (g := gb315) (cs := #[.string t312, .int .i64 t313]) hb bk; replace BK317 := kN (g := gb317) (cs := #[.string (⟨#[49]⟩ : ByteArray), .int .i64 (wrap64 ((wrap64 (a0_1 - a1)) + 1))]) hb bk; replace BK321 := kN (g := gb321) (cs := #[.string t318, .int .i64 t319]) hb bk; have BK325 := Aside0.mk hbox; replace HB := bN bz hb; clear hb hbox hg; have hnb55 := NB325_310.out; have hnc55 := NB310_325.out; have hnb56 := NB325_311.out; have hnc56 := NB311_325.out; have hnb57 := NB325_315.out; have hnc57 := NB315_325.out; have hnb58 := NB325_317.out; have hnc58 := NB317_325.out; have hnb59 := NB325_321.out; have hnc59 := NB321_325.out; obtain ⟨hcz60_0, hcz60_1, hfz60_0, hfz60_1⟩ := cz2 (W := w54) BK325; obtain ⟨hcz61_0, hcz61_1, hfz61_0, hfz61_1⟩ := cz2 (W := w54) BK321))
     go_loopg [59] k (fun kq v59 w' => ∃ (x59_1 : Int) (x312000_1 : ByteArray) (x312001_1 : Int), v59 = .int .i64 x59_1 ∧ Aside0 (short_best.l0 kq x59_1 a2_0 a2_1 a2_2 a2_3 a2_4 t318 t319 t322 t323 = some (r1, r2, r3)) ∧ Aside0 (kq ≤ k) ∧ Aside0 (w'.heap[gb310]? = some (.cells #[.string a0_0, .int .i64 a0_1] 42 (0, 0))) ∧ Aside0 (w'.heap[gb311]? = some (.cells #[.string x312000_1, .int .i64 x312001_1] 42 (0, 0))) ∧ Aside0 (w'.heap[gb315]? = some (.cells #[.string t312, .int .i64 t313] 42 (0, 0))) ∧ Aside0 (w'.heap[gb317]? = some (.cells #[.string (⟨#[49]⟩ : ByteArray), .int .i64 (wrap64 ((wrap64 (a0_1 - a1)) + 1))] 42 (0, 0))) ∧ Aside0 (w'.heap[gb321]? = some (.cells #[.string t318, .int .i64 t319] 42 (0, 0))) ∧ Aside0 (w'.heap[gb325]? = some (.cells #[.string t322, .int .i64 t323] 42 (0, 0))) ∧ Aside0 (Below w.heap.size w w'))
     case atStart => exact ⟨(0), ((⟨#[]⟩ : ByteArray)), (0), rz, H', ⟨Nat.le_refl _⟩, ⟨bk⟩, ⟨bk⟩, ⟨bk⟩, ⟨bk⟩, ⟨bk⟩, ⟨bk⟩, ⟨bz⟩⟩
     case round =>
      clear H'
      try clear c8
      try clear c8b0
      try clear c22
      try clear c28
      try clear c28b0
      try clear c28b1
      try clear c29
      try clear c29b0
      try clear c29b1
      try clear hcz10_0 hcz10_1 hfz10_0 hfz10_1
      try clear hcz11_0 hcz11_1 hfz11_0 hfz11_1
      try clear hcz15_0 hcz15_1 hfz15_0 hfz15_1
      try clear hcz20_0 hcz20_1 hfz20_0 hfz20_1
      try clear hcz25_0 hcz25_1 hfz25_0 hfz25_1
      try clear hcz27_0 hcz27_1 hfz27_0 hfz27_1
      try clear hcz34_0 hcz34_1 hfz34_0 hfz34_1
      try clear hcz39_0 hcz39_1 hfz39_0 hfz39_1
      try clear hcz51_0 hcz51_1 hfz51_0 hfz51_1
      try clear hcz52_0 hcz52_1 hfz52_0 hfz52_1
      try clear hcz60_0 hcz60_1 hfz60_0 hfz60_1
      try clear hcz61_0 hcz61_1 hfz61_0 hfz61_1
      try clear hcz7_0 hcz7_1 hfz7_0 hfz7_1
      obtain ⟨x59_1, x312000_1, x312001_1, rfl, HA, HK1, BK310, BK311, BK315, BK317, BK321, BK325, HB⟩ := hrel
      cases gk with
      | zero => exact absurd HA.out (by simp [short_best.l0])
      | succ k1 =>
       have H := HA.out
       clear HA
       simp only [short_best.l0] at H
       by_cases c62 : x59_1 < 2
       ·replace H := hE H c62
        have c62b0 := decide_eq_true c62
        clear c62
        try rw [c62b0]
        by_cases c63 : x59_1 = 0
        ·replace H := hE H c63
         have c63b0 : (x59_1 == 0) = true := beq_iff_eq.mpr c63
         have hix_ : ∀ W : World, (Instr.index 119 (.agg #[.string t318, .int .i64 t319, .string t322, .int .i64 t323]) (.int .i64 x59_1)).run Tryz.prog W = .ok (.agg #[.string t318, .int .i64 t319]) W := by intro W; rw [c63]; kernel_rfl
         have c63b1 : (x59_1 != 0) = false := bne_eq_false_iff_eq.mpr c63
         clear c63
         replace H := bs H
         obtain ⟨t328, A64, H⟩ := H
         go_upto_if 64 with (first | ((with_reducible refine gate_dst (N := 16) rfl ?_); refine box_event rfl (N := 16) rfl (cs := #[.string (⟨#[]⟩ : ByteArray), .int .i64 0]) (t := 42) gz ?_; intro gb327 hg w65 hbox hb; have GE327 := gN bz hg; have NB310_327 := lN (g := gb310) (cs := #[.string a0_0, .int .i64 a0_1]) hg bk; have NB327_310 := rN (g := gb310) (cs := #[.string a0_0, .int .i64 a0_1]) hg bk; have NB311_327 := lN (g := gb311) (cs := #[.string x312000_1, .int .i64 x312001_1]) hg bk; have NB327_311 := rN (g := gb311) (cs := #[.string x312000_1, .int .i64 x312001_1]) hg bk; have NB315_327 := lN (g := gb315) (cs := #[.string t312, .int .i64 t313]) hg bk; have NB327_315 := rN (g := gb315) (cs := #[.string t312, .int .i64 t313]) hg bk; have NB317_327 := lN (g := gb317) (cs := #[.string (⟨#[49]⟩ : ByteArray), .int .i64 (wrap64 ((wrap64 (a0_1 - a1)) + 1))]) hg bk; have NB327_317 := rN (g := gb317) (cs := #[.string (⟨#[49]⟩ : ByteArray), .int .i64 (wrap64 ((wrap64 (a0_1 - a1)) + 1))]) hg bk; have NB321_327 := lN (g := gb321) (cs := #[.string t318, .int .i64 t319]) hg bk; have NB327_321 := rN (g := gb321) (cs := #[.string t318, .int .i64 t319]) hg bk; have NB325_327 := lN (g := gb325) (cs := #[.string t322, .int .i64 t323]) hg bk; have NB327_325 := rN (g := gb325) (cs := #[.string t322, .int .i64 t323]) hg bk; replace BK310 := kN (g := gb310) (cs := #[.string a0_0, .int .i64 a0_1]) hb bk; replace BK311 := kN (g := gb311) (cs := #[.string x312000_1, .int .i64 x312001_1]) hb bk; replace BK315 := kN (g := gb315) (cs := #[.string t312, .int .i64 t313]) hb bk; replace BK317 := kN (g := gb317) (cs := #[.string (⟨#[49]⟩ : ByteArray), .int .i64 (wrap64 ((wrap64 (a0_1 - a1)) + 1))]) hb bk; replace BK321 := kN (g := gb321) (cs := #[.string t318, .int .i64 t319]) hb bk; replace BK325 := kN (g := gb325) (cs := #[.string t322, .int .i64 t323]) hb bk; have BK327 := Aside0.mk hbox; replace HB := bN bz hb; clear hb hbox hg; have hnb66 := NB327_310.out; have hnc66 := NB310_327.out; have hnb67 := NB327_311.out; have hnc67 := NB311_327.out; have hnb68 := NB327_315.out; have hnc68 := NB315_327.out; have hnb69 := NB327_317.out; have hnc69 := NB317_327.out; have hnb70 := NB327_321.out; have hnc70 := NB321_327.out; have hnb71 := NB327_325.out; have hnc71 := NB325_327.out; obtain ⟨hcz72_0, hcz72_1, hfz72_0, hfz72_1⟩ := cz2 (W := w65) BK327) | (go_at_call 56; (with_reducible refine (short_span_in.calls k1 a2_0 a2_1 a2_2 a2_3 a2_4 t318 t319 t328 _ A64.out).mono ?_); rintro e w73 ⟨rfl, hb⟩; replace BK310 := kN (g := gb310) (cs := #[.string a0_0, .int .i64 a0_1]) hb bk; replace BK311 := kN (g := gb311) (cs := #[.string x312000_1, .int .i64 x312001_1]) hb bk; replace BK315 := kN (g := gb315) (cs := #[.string t312, .int .i64 t313]) hb bk; replace BK317 := kN (g := gb317) (cs := #[.string (⟨#[49]⟩ : ByteArray), .int .i64 (wrap64 ((wrap64 (a0_1 - a1)) + 1))]) hb bk; replace BK321 := kN (g := gb321) (cs := #[.string t318, .int .i64 t319]) hb bk; replace BK325 := kN (g := gb325) (cs := #[.string t322, .int .i64 t323]) hb bk; replace BK327 := kN (g := gb327) (cs := #[.string t318, .int .i64 t319]) hb bk; replace HB := bN bz hb; (try clear hb); (try clear hb2); (try clear hk); (try clear hi)))
         (try simp only [Act.put, List.setIfInBounds_toArray, List.set_cons_zero, List.set_cons_succ])
         by_cases c74 : t328 = true
         ·subst c74
          replace H := hT H
          simp only [Option.some.injEq, Prod.mk.injEq] at H
          obtain ⟨rfl, rfl, rfl⟩ := H
          have hnb75 := NB327_310.out
          have hnc75 := NB310_327.out
          have hnb76 := NB327_311.out
          have hnc76 := NB311_327.out
          have hnb77 := NB327_315.out
          have hnc77 := NB315_327.out
          have hnb78 := NB327_317.out
          have hnc78 := NB317_327.out
          have hnb79 := NB327_321.out
          have hnc79 := NB321_327.out
          have hnb80 := NB327_325.out
          have hnc80 := NB325_327.out
          obtain ⟨hcz81_0, hcz81_1, hfz81_0, hfz81_1⟩ := cz2 (W := w73) BK327
          have hnb82 := NB311_310.out
          have hnc82 := NB310_311.out
          have hnb83 := NB311_315.out
          have hnc83 := NB315_311.out
          have hnb84 := NB311_317.out
          have hnc84 := NB317_311.out
          have hnb85 := NB311_321.out
          have hnc85 := NB321_311.out
          have hnb86 := NB311_325.out
          have hnc86 := NB325_311.out
          obtain ⟨hcz87_0, hcz87_1, hfz87_0, hfz87_1⟩ := cz2 (W := w73) BK311
          go_wp2
          refine bodyPost_ret (results_ct rfl _ _ gb311 42 #[.string t318, .int .i64 t319] (0, 0) _ rfl bk Tryz.underlying42 rfl (by kernel_rfl)) rfl ?_
          exact ⟨ez, bz⟩
         ·replace c74 := Bool.eq_false_iff.mpr c74
          subst c74
          replace H := hF H
          have H' := Aside0.mk H
          clear H
          go_wp2
          go_roundg k1
          case measure => have := HK1.out; omega
          case rel => exact ⟨(wrap64 (x59_1 + 1)), (x312000_1), (x312001_1), rz, H', ⟨by have := HK1.out; omega⟩, ⟨bk⟩, ⟨bk⟩, ⟨bk⟩, ⟨bk⟩, ⟨bk⟩, ⟨bk⟩, ⟨bz⟩⟩
        ·replace H := hN H c63
         obtain ⟨c63b0, c63b1⟩ := eF c63
         by_cases c88 : x59_1 = 1
         ·replace H := hE H c88
          have c88b0 : (x59_1 == 1) = true := beq_iff_eq.mpr c88
          have hix_ : ∀ W : World, (Instr.index 119 (.agg #[.string t318, .int .i64 t319, .string t322, .int .i64 t323]) (.int .i64 x59_1)).run Tryz.prog W = .ok (.agg #[.string t322, .int .i64 t323]) W := by intro W; rw [c88]; kernel_rfl
          have c88b1 : (x59_1 != 1) = false := bne_eq_false_iff_eq.mpr c88
          clear c88
          replace H := bs H
          obtain ⟨t330, A89, H⟩ := H
          go_upto_if 64 with (first | ((with_reducible refine gate_dst (N := 16) rfl ?_); refine box_event rfl (N := 16) rfl (cs := #[.string (⟨#[]⟩ : ByteArray), .int .i64 0]) (t := 42) gz ?_; intro gb329 hg w90 hbox hb; have GE329 := gN bz hg; have NB310_329 := lN (g := gb310) (cs := #[.string a0_0, .int .i64 a0_1]) hg bk; have NB329_310 := rN (g := gb310) (cs := #[.string a0_0, .int .i64 a0_1]) hg bk; have NB311_329 := lN (g := gb311) (cs := #[.string x312000_1, .int .i64 x312001_1]) hg bk; have NB329_311 := rN (g := gb311) (cs := #[.string x312000_1, .int .i64 x312001_1]) hg bk; have NB315_329 := lN (g := gb315) (cs := #[.string t312, .int .i64 t313]) hg bk; have NB329_315 := rN (g := gb315) (cs := #[.string t312, .int .i64 t313]) hg bk; have NB317_329 := lN (g := gb317) (cs := #[.string (⟨#[49]⟩ : ByteArray), .int .i64 (wrap64 ((wrap64 (a0_1 - a1)) + 1))]) hg bk; have NB329_317 := rN (g := gb317) (cs := #[.string (⟨#[49]⟩ : ByteArray), .int .i64 (wrap64 ((wrap64 (a0_1 - a1)) + 1))]) hg bk; have NB321_329 := lN (g := gb321) (cs := #[.string t318, .int .i64 t319]) hg bk; have NB329_321 := rN (g := gb321) (cs := #[.string t318, .int .i64 t319]) hg bk; have NB325_329 := lN (g := gb325) (cs := #[.string t322, .int .i64 t323]) hg bk; have NB329_325 := rN (g := gb325) (cs := #[.string t322, .int .i64 t323]) hg bk; replace BK310 := kN (g := gb310) (cs := #[.string a0_0, .int .i64 a0_1]) hb bk; replace BK311 := kN (g := gb311) (cs := #[.string x312000_1, .int .i64 x312001_1]) hb bk; replace BK315 := kN (g := gb315) (cs := #[.string t312, .int .i64 t313]) hb bk; replace BK317 := kN (g := gb317) (cs := #[.string (⟨#[49]⟩ : ByteArray), .int .i64 (wrap64 ((wrap64 (a0_1 - a1)) + 1))]) hb bk; replace BK321 := kN (g := gb321) (cs := #[.string t318, .int .i64 t319]) hb bk; replace BK325 := kN (g := gb325) (cs := #[.string t322, .int .i64 t323]) hb bk; have BK329 := Aside0.mk hbox; replace HB := bN bz hb; clear hb hbox hg; have hnb91 := NB329_310.out; have hnc91 := NB310_329.out; have hnb92 := NB329_311.out; have hnc92 := NB311_329.out; have hnb93 := NB329_315.out; have hnc93 := NB315_329.out; have hnb94 := NB329_317.out; have hnc94 := NB317_329.out; have hnb95 := NB329_321.out; have hnc95 := NB321_329.out; have hnb96 := NB329_325.out; have hnc96 := NB325_329.out; obtain ⟨hcz97_0, hcz97_1, hfz97_0, hfz97_1⟩ := cz2 (W := w90) BK329) | (go_at_call 56; (with_reducible refine (short_span_in.calls k1 a2_0 a2_1 a2_2 a2_3 a2_4 t322 t323 t330 _ A89.out).mono ?_); rintro e w98 ⟨rfl, hb⟩; replace BK310 := kN (g := gb310) (cs := #[.string a0_0, .int .i64 a0_1]) hb bk; replace BK311 := kN (g := gb311) (cs := #[.string x312000_1, .int .i64 x312001_1]) hb bk; replace BK315 := kN (g := gb315) (cs := #[.string t312, .int .i64 t313]) hb bk; replace BK317 := kN (g := gb317) (cs := #[.string (⟨#[49]⟩ : ByteArray), .int .i64 (wrap64 ((wrap64 (a0_1 - a1)) + 1))]) hb bk; replace BK321 := kN (g := gb321) (cs := #[.string t318, .int .i64 t319]) hb bk; replace BK325 := kN (g := gb325) (cs := #[.string t322, .int .i64 t323]) hb bk; replace BK329 := kN (g := gb329) (cs := #[.string t322, .int .i64 t323]) hb bk; replace HB := bN bz hb; (try clear hb); (try clear hb2); (try clear hk); (try clear hi)))
          (try simp only [Act.put, List.setIfInBounds_toArray, List.set_cons_zero, List.set_cons_succ])
          by_cases c99 : t330 = true
          ·subst c99
           replace H := hT H
           simp only [Option.some.injEq, Prod.mk.injEq] at H
           obtain ⟨rfl, rfl, rfl⟩ := H
           have hnb100 := NB329_310.out
           have hnc100 := NB310_329.out
           have hnb101 := NB329_311.out
           have hnc101 := NB311_329.out
           have hnb102 := NB329_315.out
           have hnc102 := NB315_329.out
           have hnb103 := NB329_317.out
           have hnc103 := NB317_329.out
           have hnb104 := NB329_321.out
           have hnc104 := NB321_329.out
           have hnb105 := NB329_325.out
           have hnc105 := NB325_329.out
           obtain ⟨hcz106_0, hcz106_1, hfz106_0, hfz106_1⟩ := cz2 (W := w98) BK329
           have hnb107 := NB311_310.out
           have hnc107 := NB310_311.out
           have hnb108 := NB311_315.out
           have hnc108 := NB315_311.out
           have hnb109 := NB311_317.out
           have hnc109 := NB317_311.out
           have hnb110 := NB311_321.out
           have hnc110 := NB321_311.out
           have hnb111 := NB311_325.out
           have hnc111 := NB325_311.out
           obtain ⟨hcz112_0, hcz112_1, hfz112_0, hfz112_1⟩ := cz2 (W := w98) BK311
           go_wp2
           refine bodyPost_ret (results_ct rfl _ _ gb311 42 #[.string t322, .int .i64 t323] (0, 0) _ rfl bk Tryz.underlying42 rfl (by kernel_rfl)) rfl ?_
           exact ⟨ez, bz⟩
          ·replace c99 := Bool.eq_false_iff.mpr c99
           subst c99
           replace H := hF H
           have H' := Aside0.mk H
           clear H
           go_wp2
           go_roundg k1
           case measure => have := HK1.out; omega
           case rel => exact ⟨(wrap64 (x59_1 + 1)), (x312000_1), (x312001_1), rz, H', ⟨by have := HK1.out; omega⟩, ⟨bk⟩, ⟨bk⟩, ⟨bk⟩, ⟨bk⟩, ⟨bk⟩, ⟨bk⟩, ⟨bz⟩⟩
         ·replace H := hN H c88
          exact absurd H (by simp)
       ·replace H := hN H c62
        have c62b0 := decide_eq_false c62
        clear c62
        try rw [c62b0]
        simp only [Option.some.injEq, Prod.mk.injEq] at H
        obtain ⟨rfl, rfl, rfl⟩ := H
        have hnb113 := NB311_310.out
        have hnc113 := NB310_311.out
        have hnb114 := NB311_315.out
        have hnc114 := NB315_311.out
        have hnb115 := NB311_317.out
        have hnc115 := NB317_311.out
        have hnb116 := NB311_321.out
        have hnc116 := NB321_311.out
        have hnb117 := NB311_325.out
        have hnc117 := NB325_311.out
        obtain ⟨hcz118_0, hcz118_1, hfz118_0, hfz118_1⟩ := cz2 (W := wr) BK311
        go_wp2
        refine bodyPost_ret (results_ct rfl _ _ gb311 42 #[.string (⟨#[]⟩ : ByteArray), .int .i64 0] (0, 0) _ rfl bk Tryz.underlying42 rfl (by kernel_rfl)) rfl ?_
        exact ⟨ez, bz⟩
    ·replace H := hN H c29
     exact absurd H (by simp)
   ·replace H := hN H c28
    exact absurd H (by simp)
end Go.Proofs.YtecpgdfnamkfdaaGreatDoor.Fn
end
section
namespace Go.Proofs.YtecpgdfnamkfdaaGreatDoor.Fn
open Go.RowKit Go.Proofs.YtecpgdfnamkfdaaGreatDoorW.PrintWords Go.Proofs.YtecpgdfnamkfdaaGreatDoorW.PrintLast Go.Proofs.YtecpgdfnamkfdaaGreatDoorW.PrintMore
attribute [local go_sem] fnW_0 fnW_1 fnW_2 fnW_3 fnW_4 fnW_5 fnW_guard fnW_eql max2_int min2_int max_two min_two
set_option linter.unusedVariables false
set_option linter.unusedSimpArgs false
mutual
def floats_float_hex.j0 : Nat → ByteArray → Int → Int → Int → Int → Int → Int → Int → Bool → Int → Option (ByteArray)
 | 0, _, _, _, _, _, _, _, _, _, _ => none
 | k + 1, x3, x4, x5, x418000, x418001, x418002, x418003, x418004, x418005, x418006 => if x418004 < 0 then ((floats_sixteen.f x4).bind fun t419 => ((strings_TrimRight.f t419 (⟨#[48]⟩ : ByteArray)).bind fun t420 => (floats_float_hex.j4 k x3 x5 t420 x418000 x418001 x418002 x418003 x418004 x418005 x418006))) else (if x418004 ≥ 16 then ((floats_sixteen.f x4).bind fun t421 => ((floats_filled.f t421 x418004).bind fun t422 => (floats_float_hex.j4 k x3 x5 t422 x418000 x418001 x418002 x418003 x418004 x418005 x418006))) else (if 0 ≤ (IntKind.u64.wrap (64 - (IntKind.u64.wrap (wrap64 (64 - (wrap64 (4 * x418004))))))) then (if (IntKind.u64.wrap (wrap64 (64 - (wrap64 (4 * x418004))))) = 64 then (floats_float_hex.j1 k x3 x4 x5 (⟨#[]⟩ : ByteArray) (IntKind.u64.wrap (wrap64 (64 - (wrap64 (4 * x418004))))) x4 x418000 x418001 x418002 x418003 x418004 x418005 x418006) else (floats_float_hex.j1 k x3 x4 x5 (⟨#[]⟩ : ByteArray) (IntKind.u64.wrap (wrap64 (64 - (wrap64 (4 * x418004))))) (shl .u64 x4 (IntKind.u64.wrap (64 - (IntKind.u64.wrap (wrap64 (64 - (wrap64 (4 * x418004)))))))) x418000 x418001 x418002 x418003 x418004 x418005 x418006)) else (none)))
def floats_float_hex.j4 : Nat → ByteArray → Int → ByteArray → Int → Int → Int → Int → Int → Bool → Int → Option (ByteArray)
 | 0, _, _, _, _, _, _, _, _, _, _ => none
 | k + 1, x3, x5, x7, x418000, x418001, x418002, x418003, x418004, x418005, x418006 => (floats_float_pointed.f x418000 x418001 x418002 x418003 x418004 x418005 x418006 x3 x7).bind fun t426 => ((floats_power.f (⟨#[112]⟩ : ByteArray) x5 2).bind fun t427 => ((floats_joined.f (([(⟨#[48, 120]⟩ : ByteArray), t426, t427] : List ByteArray))).bind fun t431 => (if x418006 = 88 then ((strings_ToUpper.f t431).bind fun t432 => (some t432)) else (some t431))))
def floats_float_hex.j1 : Nat → ByteArray → Int → Int → ByteArray → Int → Int → Int → Int → Int → Int → Int → Bool → Int → Option (ByteArray)
 | 0, _, _, _, _, _, _, _, _, _, _, _, _, _ => none
 | k + 1, x3, x4, x5, x7, x8, x9, x418000, x418001, x418002, x418003, x418004, x418005, x418006 => if 0 ≤ x8 then (if (Int.tmod (shr .u64 x4 x8) 2) = 1 then (floats_float_hex.j2 k x3 x5 x7 x8 x9 (shr .u64 x4 x8) true x418000 x418001 x418002 x418003 x418004 x418005 x418006) else (if x418004 = 0 then (floats_float_hex.j2 k x3 x5 x7 x8 x9 (shr .u64 x4 x8) (x3.toList == ([49] : List UInt8)) x418000 x418001 x418002 x418003 x418004 x418005 x418006) else (floats_float_hex.j2 k x3 x5 x7 x8 x9 (shr .u64 x4 x8) false x418000 x418001 x418002 x418003 x418004 x418005 x418006))) else (none)
def floats_float_hex.j2 : Nat → ByteArray → Int → ByteArray → Int → Int → Int → Bool → Int → Int → Int → Int → Int → Bool → Int → Option (ByteArray)
 | 0, _, _, _, _, _, _, _, _, _, _, _, _, _, _ => none
 | k + 1, x3, x5, x7, x8, x9, x10, x11, x418000, x418001, x418002, x418003, x418004, x418005, x418006 => if x9 > 9223372036854775808 then (floats_float_hex.j3 k x3 x5 x7 x8 x10 true x418000 x418001 x418002 x418003 x418004 x418005 x418006) else (if x9 = 9223372036854775808 then (floats_float_hex.j3 k x3 x5 x7 x8 x10 x11 x418000 x418001 x418002 x418003 x418004 x418005 x418006) else (floats_float_hex.j3 k x3 x5 x7 x8 x10 false x418000 x418001 x418002 x418003 x418004 x418005 x418006))
def floats_float_hex.j3 : Nat → ByteArray → Int → ByteArray → Int → Int → Bool → Int → Int → Int → Int → Int → Bool → Int → Option (ByteArray)
 | 0, _, _, _, _, _, _, _, _, _, _, _, _, _ => none
 | k + 1, x3, x5, x7, x8, x10, x79, x418000, x418001, x418002, x418003, x418004, x418005, x418006 => if x79 = true then (if 0 ≤ (IntKind.u64.wrap (64 - x8)) then (if (shr .u64 (IntKind.u64.wrap (x10 + 1)) (IntKind.u64.wrap (64 - x8))) > 0 then (if x418004 > 0 then (if 0 ≤ x8 then ((floats_sixteen.f (shl .u64 0 x8)).bind fun t423 => (if 0 ≤ x418004 then (if x418004 ≤ (t423.size : Int) then (floats_float_hex.j4 k x3 (wrap64 (x5 + 1)) (t423.extract 0 (x418004 : Int).toNat) x418000 x418001 x418002 x418003 x418004 x418005 x418006) else (none)) else (none))) else (none)) else (floats_float_hex.j4 k x3 (wrap64 (x5 + 1)) x7 x418000 x418001 x418002 x418003 x418004 x418005 x418006)) else (if x418004 > 0 then (if 0 ≤ x8 then ((floats_sixteen.f (shl .u64 (IntKind.u64.wrap (x10 + 1)) x8)).bind fun t424 => (if 0 ≤ x418004 then (if x418004 ≤ (t424.size : Int) then (floats_float_hex.j4 k x3 x5 (t424.extract 0 (x418004 : Int).toNat) x418000 x418001 x418002 x418003 x418004 x418005 x418006) else (none)) else (none))) else (none)) else (floats_float_hex.j4 k x3 x5 x7 x418000 x418001 x418002 x418003 x418004 x418005 x418006))) else (none)) else (if x418004 > 0 then (if 0 ≤ x8 then ((floats_sixteen.f (shl .u64 x10 x8)).bind fun t425 => (if 0 ≤ x418004 then (if x418004 ≤ (t425.size : Int) then (floats_float_hex.j4 k x3 x5 (t425.extract 0 (x418004 : Int).toNat) x418000 x418001 x418002 x418003 x418004 x418005 x418006) else (none)) else (none))) else (none)) else (floats_float_hex.j4 k x3 x5 x7 x418000 x418001 x418002 x418003 x418004 x418005 x418006))
end
def floats_float_hex.f (k : Nat) (a0_0 : Int) (a0_1 : Int) (a0_2 : Int) (a0_3 : Int) (a0_4 : Int) (a0_5 : Bool) (a0_6 : Int) : Option (ByteArray) := if a0_2 > 0 then ((bits_Len64.f a0_2).bind fun t418 => (if 0 ≤ (wrap64 (64 - t418)) then (floats_float_hex.j0 k (⟨#[49]⟩ : ByteArray) (IntKind.u64.wrap ((shl .u64 a0_2 (wrap64 (64 - t418))) * 2)) (wrap64 ((wrap64 (a0_3 + t418)) - 1)) a0_0 a0_1 a0_2 a0_3 a0_4 a0_5 a0_6) else (none))) else (floats_float_hex.j0 k (⟨#[48]⟩ : ByteArray) 0 0 a0_0 a0_1 a0_2 a0_3 a0_4 a0_5 a0_6)
def floats_float_hex.T23 : Bool × List (List Nat × List Nat) := (true, [([], []), ([], []), ([0, 1], [0, 1]), ([2], [2]), ([], []), ([4], [4]), ([3, 5], [3, 5]), ([6, 3, 0, 1, 2, 3, 4, 5, 6], [6])])
def floats_float_hex.B23 : List Nat := [0, 0, 3, 7, 0, 16, 63, 127]
theorem floats_float_hex.tab23 : rtab .any (opsOf Tryz.f70 23) = floats_float_hex.T23 := by kernel_rfl
theorem floats_float_hex.bits23 : waitsOk floats_float_hex.T23.2 floats_float_hex.B23 = true := by kernel_rfl
set_option maxHeartbeats 8000000 in
set_option maxRecDepth 100000 in
theorem floats_float_hex.calls (k : Nat) (a0_0 : Int) (a0_1 : Int) (a0_2 : Int) (a0_3 : Int) (a0_4 : Int) (a0_5 : Bool) (a0_6 : Int) (r : ByteArray) (w : World) (h : floats_float_hex.f k a0_0 a0_1 a0_2 a0_3 a0_4 a0_5 a0_6 = some r) :
  Calls Tryz.prog 70 #[.agg #[.int .u64 a0_0, .int .i64 a0_1, .int .u64 a0_2, .int .i64 a0_3, .int .i64 a0_4, .bool a0_5, .int .i32 a0_6]] w fun e w' => e = .returned (.string r) ∧ Below w.heap.size w w' := by
 have hu74 := Tryz.underlying74
 have HB := Aside0.mk (Below.refl w.heap.size w)
 have H : (if a0_2 > 0 then ((bits_Len64.f a0_2).bind fun t418 => (if 0 ≤ (wrap64 (64 - t418)) then (floats_float_hex.j0 k (⟨#[49]⟩ : ByteArray) (IntKind.u64.wrap ((shl .u64 a0_2 (wrap64 (64 - t418))) * 2)) (wrap64 ((wrap64 (a0_3 + t418)) - 1)) a0_0 a0_1 a0_2 a0_3 a0_4 a0_5 a0_6) else (none))) else (floats_float_hex.j0 k (⟨#[48]⟩ : ByteArray) 0 0 a0_0 a0_1 a0_2 a0_3 a0_4 a0_5 a0_6)) = some r := h
 clear h
 have HC2 := Aside0.mk H
 clear H
 go_enter Tryz.func70, Tryz.ntmps70
 go_upto_if 15 with (first | ((with_reducible refine gate_dst (N := 1) rfl ?_); refine box_event rfl (N := 1) rfl (cs := #[.int .u64 a0_0, .int .i64 a0_1, .int .u64 a0_2, .int .i64 a0_3, .int .i64 a0_4, .bool a0_5, .int .i32 a0_6]) (t := 74) gz ?_; intro gb417 hg w3 hbox hb; have GE417 := gN bz hg; have BK417 := Aside0.mk hbox; replace HB := bN bz hb; clear hb hbox hg; obtain ⟨hcz4_0, hcz4_1, hcz4_2, hcz4_3, hcz4_4, hcz4_5, hcz4_6, hfz4_0, hfz4_1, hfz4_2, hfz4_3, hfz4_4, hfz4_5, hfz4_6⟩ := cz7 (W := w3) BK417))
 (try simp only [Act.put, List.setIfInBounds_toArray, List.set_cons_zero, List.set_cons_succ])
 go_cut [3, 4, 5] (fun v3 v4 v5 wc => ∃ (kq : Nat) (x3_1 : ByteArray) (x4_1 : Int) (x5_1 : Int), v3 = .string x3_1 ∧ v4 = .int .u64 x4_1 ∧ v5 = .int .i64 x5_1 ∧ Aside0 (floats_float_hex.j0 kq x3_1 x4_1 x5_1 a0_0 a0_1 a0_2 a0_3 a0_4 a0_5 a0_6 = some r) ∧ Aside0 (kq ≤ k) ∧ Aside0 (wc.heap[gb417]? = some (.cells #[.int .u64 a0_0, .int .i64 a0_1, .int .u64 a0_2, .int .i64 a0_3, .int .i64 a0_4, .bool a0_5, .int .i32 a0_6] 74 (0, 0))) ∧ Aside0 (Below w.heap.size w wc))
 case first =>
  have H := HC2.out
  clear HC2
  by_cases c5 : a0_2 > 0
  ·replace H := hE H c5
   have c5b0 : decide (0 < a0_2) = true := decide_eq_true c5
   clear c5
   try rw [c5b0]
   replace H := bs H
   obtain ⟨t418, A6, H⟩ := H
   obtain ⟨ji7, hji7⟩ : ∃ j_ : Int, (wrap64 (64 - t418)) = j_ := ⟨_, rfl⟩
   (first | rw [hji7] at H | simp only [hji7] at H)
   (try rw [hji7] at A6)
   have hji7w : (IntKind.i64.wrap (64 - t418)) = ji7 := (i64_w _).trans hji7
   by_cases c8 : 0 ≤ (ji7)
   ·replace H := hE H c8
    have c8b0 := eq_true c8
    have c8b1 : decide (0 ≤ (ji7)) = true := decide_eq_true c8
    clear c8
    obtain ⟨ji9, hji9⟩ : ∃ j_ : Int, (shl .u64 a0_2 (ji7)) = j_ := ⟨_, rfl⟩
    (first | rw [hji9] at H | simp only [hji9] at H)
    (try rw [hji9] at A6)
    have hji9_ : (IntKind.u64.wrap (a0_2 * 2 ^ min (ji7).toNat 64)) = ji9 := hji9
    have hji9z : (ji7) ≤ 64 → (IntKind.u64.wrap (a0_2 * 2 ^ (ji7).toNat)) = ji9 := shl_small hji9
    have H' := Aside0.mk H
    clear H
    obtain ⟨hcz10_0, hcz10_1, hcz10_2, hcz10_3, hcz10_4, hcz10_5, hcz10_6, hfz10_0, hfz10_1, hfz10_2, hfz10_3, hfz10_4, hfz10_5, hfz10_6⟩ := cz7 (W := w3) BK417
    try go_wp2_with (first | ((with_reducible refine gate_callee (f := 112) rfl ?_); refine goesL_ (some 18) rfl rfl Tryz.func112 (by kernel_rfl) rfl #[.int .u64 a0_2] rfl lz ?_; (with_reducible refine (bits_Len64.calls a0_2 t418 _ A6.out).mono ?_); rintro e w11 ⟨rfl, hb⟩; refine ⟨_, rfl, ?_⟩; replace BK417 := kN (g := gb417) (cs := #[.int .u64 a0_0, .int .i64 a0_1, .int .u64 a0_2, .int .i64 a0_3, .int .i64 a0_4, .bool a0_5, .int .i32 a0_6]) hb bk; replace HB := bN bz hb; (try clear hb); (try clear hb2); (try clear hk); (try clear hi)))
    replace BK417 := Aside0.mk (blk_drew BK417.out)
    replace HB := Aside0.mk (below_drew1 HB.out)
    refine start_ (n := 7) (S := fun w' => w'.cell? ⟨gb417, 0, none⟩ = some (.int .u64 a0_0) ∧ w'.cell? ⟨gb417, 1, none⟩ = some (.int .i64 a0_1) ∧ w'.cell? ⟨gb417, 2, none⟩ = some (.int .u64 a0_2) ∧ w'.cell? ⟨gb417, 3, none⟩ = some (.int .i64 a0_3) ∧ w'.cell? ⟨gb417, 4, none⟩ = some (.int .i64 a0_4) ∧ w'.cell? ⟨gb417, 5, none⟩ = some (.bool a0_5) ∧ w'.cell? ⟨gb417, 6, none⟩ = some (.int .i32 a0_6)) (ds := []) #[false, false, false, false, false, false, false] (by kernel_rfl) rfl rfl ⟨(blk_cell BK417.out 0).trans rfl, (blk_cell BK417.out 1).trans rfl, (blk_cell BK417.out 2).trans rfl, (blk_cell BK417.out 3).trans rfl, (blk_cell BK417.out 4).trans rfl, (blk_cell BK417.out 5).trans rfl, (blk_cell BK417.out 6).trans rfl⟩ (fun hHeld => ?_)
    generalize w11.drew = w12 at BK417 HB hHeld ⊢
    refine pure_ (i := 0) (N := some 19) (v := ?_) (a' := ?_) #[true, false, false, false, false, false, false] rfl rfl (by kernel_rfl) (fun _ _ _ h => h) (Or.inl ⟨by rfl, ?_⟩) ?_ ?_
    rotate_left
    ·intro w'
     go_simp
     with_reducible rfl
    rotate_left
    ·simp only [Act.put, List.setIfInBounds_toArray, List.set_cons_zero, List.set_cons_succ, i64_w, i32_w]
     rfl
    refine pure_ (i := 2) (N := some 21) (v := ?_) (a' := ?_) #[true, false, true, false, false, false, false] rfl rfl (by kernel_rfl) (fun _ _ _ h => h) (Or.inl ⟨by rfl, ?_⟩) ?_ ?_
    rotate_left
    ·intro w'
     go_simp
     with_reducible rfl
    rotate_left
    ·simp only [Act.put, List.setIfInBounds_toArray, List.set_cons_zero, List.set_cons_succ, i64_w, i32_w]
     rfl
    refine pure_ (i := 5) (N := some 3) (v := ?_) (a' := ?_) #[true, false, true, false, false, true, false] rfl rfl (by kernel_rfl) (fun _ _ _ h => h) (Or.inl ⟨by rfl, ?_⟩) ?_ ?_
    rotate_left
    ·intro w'
     go_simp
     with_reducible rfl
    rotate_left
    ·simp only [Act.put, List.setIfInBounds_toArray, List.set_cons_zero, List.set_cons_succ, i64_w, i32_w]
     rfl
    refine take_ (i := 1) (N := some 20) (v := ?_) (a' := ?_) #[true, true, true, false, false, true, false] rfl rfl (by kernel_rfl) (fun _ _ _ h => h) (Or.inl ⟨by rfl, ?_⟩) hHeld ?_ ?_
    rotate_left
    ·rintro w' ⟨s0, s1, s2, s3, s4, s5, s6⟩
     go_simp
     with_reducible rfl
    rotate_left
    ·simp only [Act.put, List.setIfInBounds_toArray, List.set_cons_zero, List.set_cons_succ, i64_w, i32_w]
     rfl
    refine pure_ (i := 3) (N := some 22) (v := ?_) (a' := ?_) #[true, true, true, true, false, true, false] rfl rfl (by kernel_rfl) (fun _ _ _ h => h) (Or.inl ⟨by rfl, ?_⟩) ?_ ?_
    rotate_left
    ·intro w'
     go_simp
     with_reducible rfl
    rotate_left
    ·simp only [Act.put, List.setIfInBounds_toArray, List.set_cons_zero, List.set_cons_succ, i64_w, i32_w]
     rfl
    refine pure_ (i := 4) (N := some 23) (v := ?_) (a' := ?_) #[true, true, true, true, true, true, false] rfl rfl (by kernel_rfl) (fun _ _ _ h => h) (Or.inl ⟨by rfl, ?_⟩) ?_ ?_
    rotate_left
    ·intro w'
     go_simp
     with_reducible rfl
    rotate_left
    ·simp only [Act.put, List.setIfInBounds_toArray, List.set_cons_zero, List.set_cons_succ, i64_w, i32_w]
     rfl
    refine pure_ (i := 6) (N := some 5) (v := ?_) (a' := ?_) #[true, true, true, true, true, true, true] rfl rfl (by kernel_rfl) (fun _ _ _ h => h) (Or.inl ⟨by rfl, ?_⟩) ?_ ?_
    rotate_left
    ·intro w'
     go_simp
     with_reducible rfl
    rotate_left
    ·simp only [Act.put, List.setIfInBounds_toArray, List.set_cons_zero, List.set_cons_succ, i64_w, i32_w]
     rfl
    refine done_ (by kernel_rfl) ?_
    obtain ⟨hcz13_0, hcz13_1, hcz13_2, hcz13_3, hcz13_4, hcz13_5, hcz13_6, hfz13_0, hfz13_1, hfz13_2, hfz13_3, hfz13_4, hfz13_5, hfz13_6⟩ := cz7 (W := w12) BK417
    try go_wp2
    go_meet
    case rel => exact ⟨_, ((⟨#[49]⟩ : ByteArray)), (IntKind.u64.wrap ((ji9) * 2)), (wrap64 ((wrap64 (a0_3 + t418)) - 1)), rz, (by first | rfl | (simp; done) | (simp only [← hji9] <;> (first | rfl | simp)) | (simp [*]; done)), rz, H', ⟨by first | omega | exact Nat.le_refl _⟩, ⟨bk⟩, ⟨bz⟩⟩
   ·replace H := hN H c8
    exact absurd H (by simp)
  ·replace H := hN H c5
   have c5b0 : decide (0 < a0_2) = false := decide_eq_false c5
   clear c5
   try rw [c5b0]
   have H' := Aside0.mk H
   clear H
   go_wp2
   go_meet
   case rel => exact ⟨_, ((⟨#[48]⟩ : ByteArray)), (0), (0), rz, rz, rz, H', ⟨by first | omega | exact Nat.le_refl _⟩, ⟨bk⟩, ⟨bz⟩⟩
 case rest =>
  clear HC2
  try clear c5
  try clear c5b0
  try clear c8
  try clear c8b0
  try clear c8b1
  try clear hcz10_0 hcz10_1 hcz10_2 hcz10_3 hcz10_4 hcz10_5 hcz10_6 hfz10_0 hfz10_1 hfz10_2 hfz10_3 hfz10_4 hfz10_5 hfz10_6
  try clear hcz13_0 hcz13_1 hcz13_2 hcz13_3 hcz13_4 hcz13_5 hcz13_6 hfz13_0 hfz13_1 hfz13_2 hfz13_3 hfz13_4 hfz13_5 hfz13_6
  try clear hcz4_0 hcz4_1 hcz4_2 hcz4_3 hcz4_4 hcz4_5 hcz4_6 hfz4_0 hfz4_1 hfz4_2 hfz4_3 hfz4_4 hfz4_5 hfz4_6
  obtain ⟨kq, x3_1, x4_1, x5_1, rfl, rfl, rfl, HA, HJ1, BK417, HB⟩ := hcut
  cases kq with
  | zero => exact absurd HA.out (by simp [floats_float_hex.j0])
  | succ kj1 =>
   have H := HA.out
   clear HA
   simp only [floats_float_hex.j0] at H
   have HC14 := Aside0.mk H
   clear H
   obtain ⟨hcz15_0, hcz15_1, hcz15_2, hcz15_3, hcz15_4, hcz15_5, hcz15_6, hfz15_0, hfz15_1, hfz15_2, hfz15_3, hfz15_4, hfz15_5, hfz15_6⟩ := cz7 (W := wc) BK417
   go_upto_if 32 with (fail)
   go_cut [5, 7] (fun v5 v7 wc => ∃ (kq : Nat) (x5_13 : Int) (x7_13 : ByteArray), v5 = .int .i64 x5_13 ∧ v7 = .string x7_13 ∧ Aside0 (floats_float_hex.j4 kq x3_1 x5_13 x7_13 a0_0 a0_1 a0_2 a0_3 a0_4 a0_5 a0_6 = some r) ∧ Aside0 (kq ≤ kj1) ∧ Aside0 (wc.heap[gb417]? = some (.cells #[.int .u64 a0_0, .int .i64 a0_1, .int .u64 a0_2, .int .i64 a0_3, .int .i64 a0_4, .bool a0_5, .int .i32 a0_6] 74 (0, 0))) ∧ Aside0 (Below w.heap.size w wc))
   case first =>
    have H := HC14.out
    clear HC14
    by_cases c16 : a0_4 < 0
    ·replace H := hE H c16
     have c16b0 := decide_eq_true c16
     clear c16
     try rw [c16b0]
     replace H := bs H
     obtain ⟨t419, A17, H⟩ := H
     replace H := bs H
     obtain ⟨t420, A18, H⟩ := H
     have H' := Aside0.mk H
     clear H
     go_wp2_with (first | ((with_reducible refine gate_callee (f := 113) rfl ?_); refine goesL_ (some 34) rfl rfl Tryz.func113 (by kernel_rfl) rfl #[.int .u64 x4_1] rfl lz ?_; (with_reducible refine (floats_sixteen.calls x4_1 t419 _ A17.out).mono ?_); rintro e w19 ⟨rfl, hb⟩; refine ⟨_, rfl, ?_⟩; replace BK417 := kN (g := gb417) (cs := #[.int .u64 a0_0, .int .i64 a0_1, .int .u64 a0_2, .int .i64 a0_3, .int .i64 a0_4, .bool a0_5, .int .i32 a0_6]) hb bk; replace HB := bN bz hb; (try clear hb); (try clear hb2); (try clear hk); (try clear hi)) | ((with_reducible refine gate_callee (f := 80) rfl ?_); refine goesL_ (some 35) rfl rfl Tryz.func80 (by kernel_rfl) rfl #[.string t419, .string (⟨#[48]⟩ : ByteArray)] rfl lz ?_; (with_reducible refine (strings_TrimRight.calls t419 (⟨#[48]⟩ : ByteArray) t420 _ A18.out).mono ?_); rintro e w20 ⟨rfl, hb⟩; refine ⟨_, rfl, ?_⟩; replace BK417 := kN (g := gb417) (cs := #[.int .u64 a0_0, .int .i64 a0_1, .int .u64 a0_2, .int .i64 a0_3, .int .i64 a0_4, .bool a0_5, .int .i32 a0_6]) hb bk; replace HB := bN bz hb; (try clear hb); (try clear hb2); (try clear hk); (try clear hi)))
     go_meet
     case rel => exact ⟨_, (x5_1), (t420), rz, rz, H', ⟨by have := HJ1.out; first | omega | exact Nat.le_refl _⟩, ⟨bk⟩, ⟨bz⟩⟩
    ·replace H := hN H c16
     have c16b0 := decide_eq_false c16
     clear c16
     try rw [c16b0]
     by_cases c21 : a0_4 ≥ 16
     ·replace H := hE H c21
      have c21b0 : decide (16 ≤ a0_4) = true := decide_eq_true c21
      clear c21
      replace H := bs H
      obtain ⟨t421, A22, H⟩ := H
      replace H := bs H
      obtain ⟨t422, A23, H⟩ := H
      have H' := Aside0.mk H
      clear H
      obtain ⟨hcz24_0, hcz24_1, hcz24_2, hcz24_3, hcz24_4, hcz24_5, hcz24_6, hfz24_0, hfz24_1, hfz24_2, hfz24_3, hfz24_4, hfz24_5, hfz24_6⟩ := cz7 (W := wc) BK417
      try go_wp2
      replace BK417 := Aside0.mk (blk_drew BK417.out)
      replace HB := Aside0.mk (below_drew1 HB.out)
      refine start_ (n := 6) (S := fun w' => w'.cell? ⟨gb417, 0, none⟩ = some (.int .u64 a0_0) ∧ w'.cell? ⟨gb417, 1, none⟩ = some (.int .i64 a0_1) ∧ w'.cell? ⟨gb417, 2, none⟩ = some (.int .u64 a0_2) ∧ w'.cell? ⟨gb417, 3, none⟩ = some (.int .i64 a0_3) ∧ w'.cell? ⟨gb417, 4, none⟩ = some (.int .i64 a0_4) ∧ w'.cell? ⟨gb417, 5, none⟩ = some (.bool a0_5) ∧ w'.cell? ⟨gb417, 6, none⟩ = some (.int .i32 a0_6)) (ds := []) #[false, false, false, false, false, false] (by kernel_rfl) rfl rfl ⟨(blk_cell BK417.out 0).trans rfl, (blk_cell BK417.out 1).trans rfl, (blk_cell BK417.out 2).trans rfl, (blk_cell BK417.out 3).trans rfl, (blk_cell BK417.out 4).trans rfl, (blk_cell BK417.out 5).trans rfl, (blk_cell BK417.out 6).trans rfl⟩ (fun hHeld => ?_)
      generalize wc.drew = w25 at BK417 HB hHeld ⊢
      refine pure_ (i := 0) (N := some 39) (v := ?_) (a' := ?_) #[true, false, false, false, false, false] rfl rfl (by kernel_rfl) (fun _ _ _ h => h) (Or.inl ⟨by rfl, ?_⟩) ?_ ?_
      rotate_left
      ·intro w'
       go_simp
       with_reducible rfl
      rotate_left
      ·simp only [Act.put, List.setIfInBounds_toArray, List.set_cons_zero, List.set_cons_succ, i64_w, i32_w]
       rfl
      refine pure_ (i := 2) (N := some 41) (v := ?_) (a' := ?_) #[true, false, true, false, false, false] rfl rfl (by kernel_rfl) (fun _ _ _ h => h) (Or.inl ⟨by rfl, ?_⟩) ?_ ?_
      rotate_left
      ·intro w'
       go_simp
       with_reducible rfl
      rotate_left
      ·simp only [Act.put, List.setIfInBounds_toArray, List.set_cons_zero, List.set_cons_succ, i64_w, i32_w]
       rfl
      refine take_ (i := 3) (N := some 42) (v := ?_) (a' := ?_) #[true, false, true, true, false, false] rfl rfl (by kernel_rfl) (fun _ _ _ h => h) (Or.inl ⟨by rfl, ?_⟩) hHeld ?_ ?_
      rotate_left
      ·rintro w' ⟨s0, s1, s2, s3, s4, s5, s6⟩
       go_simp
       with_reducible rfl
      rotate_left
      ·simp only [Act.put, List.setIfInBounds_toArray, List.set_cons_zero, List.set_cons_succ, i64_w, i32_w]
       rfl
      refine one_ (i := 1) (N := some 40) #[true, true, true, true, false, false] rfl rfl (by kernel_rfl) (by decide) (fun K hK => ?_)
      refine goes_ Tryz.func113 (by kernel_rfl) rfl #[.int .u64 x4_1] (by rfl) rfl rfl lz ?_
      with_reducible refine (floats_sixteen.calls x4_1 t421 _ A22.out).mono ?_
      rintro e w26 ⟨rfl, hb⟩
      refine ⟨_, rfl, ?_⟩
      replace BK417 := Aside0.mk (blk_below (g := gb417) (o := .cells #[.int .u64 a0_0, .int .i64 a0_1, .int .u64 a0_2, .int .i64 a0_3, .int .i64 a0_4, .bool a0_5, .int .i32 a0_6] 74 (0, 0)) bk hb)
      replace HB := Aside0.mk (below_step bz hb)
      (try clear hb)
      (try clear hb2)
      (try clear hk)
      (try clear hi)
      refine hK.out _ _ ⟨(blk_cell BK417.out 0).trans rfl, (blk_cell BK417.out 1).trans rfl, (blk_cell BK417.out 2).trans rfl, (blk_cell BK417.out 3).trans rfl, (blk_cell BK417.out 4).trans rfl, (blk_cell BK417.out 5).trans rfl, (blk_cell BK417.out 6).trans rfl⟩ (fun hHeld => ?_)
      clear hK K
      refine norm_ (a' := ?_) ?_ ?_
      rotate_left
      ·show Act.put _ (some 40) _ = _
       simp only [Act.put, List.setIfInBounds_toArray, List.set_cons_zero, List.set_cons_succ, i64_w, i32_w]
       rfl
      refine one_ (i := 4) (N := some 43) #[true, true, true, true, true, false] rfl rfl (by kernel_rfl) (by decide) (fun K hK => ?_)
      refine goes_ Tryz.func105 (by kernel_rfl) rfl #[.string t421, .int .i64 a0_4] (by rfl) rfl rfl lz ?_
      with_reducible refine (floats_filled.calls t421 a0_4 t422 _ A23.out).mono ?_
      rintro e w27 ⟨rfl, hb⟩
      refine ⟨_, rfl, ?_⟩
      replace BK417 := Aside0.mk (blk_below (g := gb417) (o := .cells #[.int .u64 a0_0, .int .i64 a0_1, .int .u64 a0_2, .int .i64 a0_3, .int .i64 a0_4, .bool a0_5, .int .i32 a0_6] 74 (0, 0)) bk hb)
      replace HB := Aside0.mk (below_step bz hb)
      (try clear hb)
      (try clear hb2)
      (try clear hk)
      (try clear hi)
      refine hK.out _ _ ⟨(blk_cell BK417.out 0).trans rfl, (blk_cell BK417.out 1).trans rfl, (blk_cell BK417.out 2).trans rfl, (blk_cell BK417.out 3).trans rfl, (blk_cell BK417.out 4).trans rfl, (blk_cell BK417.out 5).trans rfl, (blk_cell BK417.out 6).trans rfl⟩ (fun hHeld => ?_)
      clear hK K
      refine norm_ (a' := ?_) ?_ ?_
      rotate_left
      ·show Act.put _ (some 43) _ = _
       simp only [Act.put, List.setIfInBounds_toArray, List.set_cons_zero, List.set_cons_succ, i64_w, i32_w]
       rfl
      refine pure_ (i := 5) (N := some 7) (v := ?_) (a' := ?_) #[true, true, true, true, true, true] rfl rfl (by kernel_rfl) (fun _ _ _ h => h) (Or.inl ⟨by rfl, ?_⟩) ?_ ?_
      rotate_left
      ·intro w'
       go_simp
       with_reducible rfl
      rotate_left
      ·simp only [Act.put, List.setIfInBounds_toArray, List.set_cons_zero, List.set_cons_succ, i64_w, i32_w]
       rfl
      refine done_ (by kernel_rfl) ?_
      try go_wp2
      go_meet
      case rel => exact ⟨_, (x5_1), (t422), rz, rz, H', ⟨by have := HJ1.out; first | omega | exact Nat.le_refl _⟩, ⟨bk⟩, ⟨bz⟩⟩
     ·replace H := hN H c21
      have c21b0 : decide (16 ≤ a0_4) = false := decide_eq_false c21
      clear c21
      obtain ⟨ji28, hji28⟩ : ∃ j_ : Int, (IntKind.u64.wrap (64 - (IntKind.u64.wrap (wrap64 (64 - (wrap64 (4 * a0_4))))))) = j_ := ⟨_, rfl⟩
      (first | rw [hji28] at H | simp only [hji28] at H)
      by_cases c29 : 0 ≤ (ji28)
      ·replace H := hE H c29
       have c29b0 := eq_true c29
       have c29b1 : decide (0 ≤ (ji28)) = true := decide_eq_true c29
       clear c29
       obtain ⟨ji30, hji30⟩ : ∃ j_ : Int, (shl .u64 x4_1 (ji28)) = j_ := ⟨_, rfl⟩
       (first | rw [hji30] at H | simp only [hji30] at H)
       have hji30_ : (IntKind.u64.wrap (x4_1 * 2 ^ min (ji28).toNat 64)) = ji30 := hji30
       have hji30z : (ji28) ≤ 64 → (IntKind.u64.wrap (x4_1 * 2 ^ (ji28).toNat)) = ji30 := shl_small hji30
       have HC31 := Aside0.mk H
       clear H
       obtain ⟨hcz32_0, hcz32_1, hcz32_2, hcz32_3, hcz32_4, hcz32_5, hcz32_6, hfz32_0, hfz32_1, hfz32_2, hfz32_3, hfz32_4, hfz32_5, hfz32_6⟩ := cz7 (W := wc) BK417
       go_upto_if 54 with (fail)
       go_cut [9] (fun v9 wc => ∃ (kq : Nat) (x9_30 : Int), v9 = .int .u64 x9_30 ∧ Aside0 (floats_float_hex.j1 kq x3_1 x4_1 x5_1 (⟨#[]⟩ : ByteArray) (IntKind.u64.wrap (wrap64 (64 - (wrap64 (4 * a0_4))))) x9_30 a0_0 a0_1 a0_2 a0_3 a0_4 a0_5 a0_6 = some r) ∧ Aside0 (kq ≤ kj1) ∧ Aside0 (wc.heap[gb417]? = some (.cells #[.int .u64 a0_0, .int .i64 a0_1, .int .u64 a0_2, .int .i64 a0_3, .int .i64 a0_4, .bool a0_5, .int .i32 a0_6] 74 (0, 0))) ∧ Aside0 (Below w.heap.size w wc))
       case first =>
        have H := HC31.out
        clear HC31
        by_cases c33 : (IntKind.u64.wrap (wrap64 (64 - (wrap64 (4 * a0_4))))) = 64
        ·replace H := hE H c33
         obtain ⟨c33b0, c33b1⟩ := eT c33
         clear c33
         (first | rw [c33b0] | rw [c33b1] | (simp only [i64_w, i32_w]; rw [c33b0]) | skip)
         have H' := Aside0.mk H
         clear H
         go_wp2
         go_meet
         case rel => exact ⟨_, (x4_1), rz, H', ⟨by have := HJ1.out; first | omega | exact Nat.le_refl _⟩, ⟨bk⟩, ⟨bz⟩⟩
        ·replace H := hN H c33
         obtain ⟨c33b0, c33b1⟩ := eF c33
         (first | rw [c33b0] | rw [c33b1] | (simp only [i64_w, i32_w]; rw [c33b0]) | skip)
         have H' := Aside0.mk H
         clear H
         go_wp2
         go_meet
         case rel => exact ⟨_, (ji30), (by first | rfl | (simp; done) | (simp only [← hji30] <;> (first | rfl | simp)) | (simp [*]; done)), H', ⟨by have := HJ1.out; first | omega | exact Nat.le_refl _⟩, ⟨bk⟩, ⟨bz⟩⟩
       case rest =>
        clear HC31
        try clear c5
        try clear c5b0
        try clear c8
        try clear c8b0
        try clear c8b1
        try clear c16
        try clear c16b0
        try clear c21
        try clear c21b0
        try clear c29
        try clear c29b0
        try clear c29b1
        try clear c33
        try clear c33b0
        try clear c33b1
        try clear hcz10_0 hcz10_1 hcz10_2 hcz10_3 hcz10_4 hcz10_5 hcz10_6 hfz10_0 hfz10_1 hfz10_2 hfz10_3 hfz10_4 hfz10_5 hfz10_6
        try clear hcz13_0 hcz13_1 hcz13_2 hcz13_3 hcz13_4 hcz13_5 hcz13_6 hfz13_0 hfz13_1 hfz13_2 hfz13_3 hfz13_4 hfz13_5 hfz13_6
        try clear hcz15_0 hcz15_1 hcz15_2 hcz15_3 hcz15_4 hcz15_5 hcz15_6 hfz15_0 hfz15_1 hfz15_2 hfz15_3 hfz15_4 hfz15_5 hfz15_6
        try clear hcz24_0 hcz24_1 hcz24_2 hcz24_3 hcz24_4 hcz24_5 hcz24_6 hfz24_0 hfz24_1 hfz24_2 hfz24_3 hfz24_4 hfz24_5 hfz24_6
        try clear hcz32_0 hcz32_1 hcz32_2 hcz32_3 hcz32_4 hcz32_5 hcz32_6 hfz32_0 hfz32_1 hfz32_2 hfz32_3 hfz32_4 hfz32_5 hfz32_6
        try clear hcz4_0 hcz4_1 hcz4_2 hcz4_3 hcz4_4 hcz4_5 hcz4_6 hfz4_0 hfz4_1 hfz4_2 hfz4_3 hfz4_4 hfz4_5 hfz4_6
        obtain ⟨kq, x9_30, rfl, HA, HJ30, BK417, HB⟩ := hcut
        cases kq with
        | zero => exact absurd HA.out (by simp [floats_float_hex.j1])
        | succ kj30 =>
         have H := HA.out
         clear HA
         simp only [floats_float_hex.j1] at H
         obtain ⟨ji34, hji34⟩ : ∃ j_ : Int, (IntKind.u64.wrap (wrap64 (64 - (wrap64 (4 * a0_4))))) = j_ := ⟨_, rfl⟩
         (first | rw [hji34] at H | simp only [hji34] at H)
         by_cases c35 : 0 ≤ (ji34)
         ·replace H := hE H c35
          have c35b0 := eq_true c35
          have c35b1 : decide (0 ≤ (ji34)) = true := decide_eq_true c35
          clear c35
          obtain ⟨ji36, hji36⟩ : ∃ j_ : Int, (shr .u64 x4_1 (ji34)) = j_ := ⟨_, rfl⟩
          (first | rw [hji36] at H | simp only [hji36] at H)
          have hji36_ : (x4_1 / 2 ^ min (ji34).toNat 64) = ji36 := hji36
          have hji36z : (ji34) ≤ 64 → (x4_1 / 2 ^ (ji34).toNat) = ji36 := shr_small hji36
          have HC37 := Aside0.mk H
          clear H
          go_upto_region 16 with (fail)
          go_cut [11] (fun v11 wc => ∃ (kq : Nat) (x11_36 : Bool), v11 = .bool x11_36 ∧ Aside0 (floats_float_hex.j2 kq x3_1 x5_1 (⟨#[]⟩ : ByteArray) (ji34) x9_30 ji36 x11_36 a0_0 a0_1 a0_2 a0_3 a0_4 a0_5 a0_6 = some r) ∧ Aside0 (kq ≤ kj30) ∧ Aside0 (wc.heap[gb417]? = some (.cells #[.int .u64 a0_0, .int .i64 a0_1, .int .u64 a0_2, .int .i64 a0_3, .int .i64 a0_4, .bool a0_5, .int .i32 a0_6] 74 (0, 0))) ∧ Aside0 (Below w.heap.size w wc))
          case first =>
           have H := HC37.out
           clear HC37
           by_cases c38 : (Int.tmod (ji36) 2) = 1
           ·replace H := hE H c38
            obtain ⟨c38b0, c38b1⟩ := eT c38
            clear c38
            try first | rw [c38b0] | rw [c38b1]
            have H' := Aside0.mk H
            clear H
            go_wp2
            go_meet
            case rel => exact ⟨_, (true), rz, H', ⟨by have := HJ1.out; have := HJ30.out; first | omega | exact Nat.le_refl _⟩, ⟨bk⟩, ⟨bz⟩⟩
           ·replace H := hN H c38
            obtain ⟨c38b0, c38b1⟩ := eF c38
            try first | rw [c38b0] | rw [c38b1]
            by_cases c39 : a0_4 = 0
            ·replace H := hE H c39
             obtain ⟨c39b0, c39b1⟩ := eT c39
             clear c39
             have H' := Aside0.mk H
             clear H
             obtain ⟨hcz40_0, hcz40_1, hcz40_2, hcz40_3, hcz40_4, hcz40_5, hcz40_6, hfz40_0, hfz40_1, hfz40_2, hfz40_3, hfz40_4, hfz40_5, hfz40_6⟩ := cz7 (W := wc) BK417
             go_wp2
             go_meet
             case rel => exact ⟨_, ((x3_1.toList == ([49] : List UInt8))), rz, H', ⟨by have := HJ1.out; have := HJ30.out; first | omega | exact Nat.le_refl _⟩, ⟨bk⟩, ⟨bz⟩⟩
            ·replace H := hN H c39
             obtain ⟨c39b0, c39b1⟩ := eF c39
             have H' := Aside0.mk H
             clear H
             obtain ⟨hcz41_0, hcz41_1, hcz41_2, hcz41_3, hcz41_4, hcz41_5, hcz41_6, hfz41_0, hfz41_1, hfz41_2, hfz41_3, hfz41_4, hfz41_5, hfz41_6⟩ := cz7 (W := wc) BK417
             go_wp2
             go_meet
             case rel => exact ⟨_, (false), rz, H', ⟨by have := HJ1.out; have := HJ30.out; first | omega | exact Nat.le_refl _⟩, ⟨bk⟩, ⟨bz⟩⟩
          case rest =>
           clear HC37
           try clear c5
           try clear c5b0
           try clear c8
           try clear c8b0
           try clear c8b1
           try clear c16
           try clear c16b0
           try clear c21
           try clear c21b0
           try clear c29
           try clear c29b0
           try clear c29b1
           try clear c33
           try clear c33b0
           try clear c33b1
           try clear c35
           try clear c35b0
           try clear c35b1
           try clear c38
           try clear c38b0
           try clear c38b1
           try clear c39
           try clear c39b0
           try clear c39b1
           try clear hcz10_0 hcz10_1 hcz10_2 hcz10_3 hcz10_4 hcz10_5 hcz10_6 hfz10_0 hfz10_1 hfz10_2 hfz10_3 hfz10_4 hfz10_5 hfz10_6
           try clear hcz13_0 hcz13_1 hcz13_2 hcz13_3 hcz13_4 hcz13_5 hcz13_6 hfz13_0 hfz13_1 hfz13_2 hfz13_3 hfz13_4 hfz13_5 hfz13_6
           try clear hcz15_0 hcz15_1 hcz15_2 hcz15_3 hcz15_4 hcz15_5 hcz15_6 hfz15_0 hfz15_1 hfz15_2 hfz15_3 hfz15_4 hfz15_5 hfz15_6
           try clear hcz24_0 hcz24_1 hcz24_2 hcz24_3 hcz24_4 hcz24_5 hcz24_6 hfz24_0 hfz24_1 hfz24_2 hfz24_3 hfz24_4 hfz24_5 hfz24_6
           try clear hcz32_0 hcz32_1 hcz32_2 hcz32_3 hcz32_4 hcz32_5 hcz32_6 hfz32_0 hfz32_1 hfz32_2 hfz32_3 hfz32_4 hfz32_5 hfz32_6
           try clear hcz40_0 hcz40_1 hcz40_2 hcz40_3 hcz40_4 hcz40_5 hcz40_6 hfz40_0 hfz40_1 hfz40_2 hfz40_3 hfz40_4 hfz40_5 hfz40_6
           try clear hcz41_0 hcz41_1 hcz41_2 hcz41_3 hcz41_4 hcz41_5 hcz41_6 hfz41_0 hfz41_1 hfz41_2 hfz41_3 hfz41_4 hfz41_5 hfz41_6
           try clear hcz4_0 hcz4_1 hcz4_2 hcz4_3 hcz4_4 hcz4_5 hcz4_6 hfz4_0 hfz4_1 hfz4_2 hfz4_3 hfz4_4 hfz4_5 hfz4_6
           obtain ⟨kq, x11_36, rfl, HA, HJ36, BK417, HB⟩ := hcut
           cases kq with
           | zero => exact absurd HA.out (by simp [floats_float_hex.j2])
           | succ kj36 =>
            have H := HA.out
            clear HA
            simp only [floats_float_hex.j2] at H
            have HC42 := Aside0.mk H
            clear H
            go_upto_region 17 with (fail)
            go_cut [79] (fun v79 wc => ∃ (kq : Nat) (x79_41 : Bool), v79 = .bool x79_41 ∧ Aside0 (floats_float_hex.j3 kq x3_1 x5_1 (⟨#[]⟩ : ByteArray) (ji34) ji36 x79_41 a0_0 a0_1 a0_2 a0_3 a0_4 a0_5 a0_6 = some r) ∧ Aside0 (kq ≤ kj36) ∧ Aside0 (wc.heap[gb417]? = some (.cells #[.int .u64 a0_0, .int .i64 a0_1, .int .u64 a0_2, .int .i64 a0_3, .int .i64 a0_4, .bool a0_5, .int .i32 a0_6] 74 (0, 0))) ∧ Aside0 (Below w.heap.size w wc))
            case first =>
             have H := HC42.out
             clear HC42
             by_cases c43 : x9_30 > 9223372036854775808
             ·replace H := hE H c43
              have c43b0 : decide (9223372036854775808 < x9_30) = true := decide_eq_true c43
              clear c43
              try rw [c43b0]
              have H' := Aside0.mk H
              clear H
              go_wp2
              go_meet
              case rel => exact ⟨_, (true), rz, H', ⟨by have := HJ1.out; have := HJ30.out; have := HJ36.out; first | omega | exact Nat.le_refl _⟩, ⟨bk⟩, ⟨bz⟩⟩
             ·replace H := hN H c43
              have c43b0 : decide (9223372036854775808 < x9_30) = false := decide_eq_false c43
              clear c43
              try rw [c43b0]
              by_cases c44 : x9_30 = 9223372036854775808
              ·replace H := hE H c44
               obtain ⟨c44b0, c44b1⟩ := eT c44
               clear c44
               have H' := Aside0.mk H
               clear H
               go_wp2
               go_meet
               case rel => exact ⟨_, (x11_36), rz, H', ⟨by have := HJ1.out; have := HJ30.out; have := HJ36.out; first | omega | exact Nat.le_refl _⟩, ⟨bk⟩, ⟨bz⟩⟩
              ·replace H := hN H c44
               obtain ⟨c44b0, c44b1⟩ := eF c44
               have H' := Aside0.mk H
               clear H
               go_wp2
               go_meet
               case rel => exact ⟨_, (false), rz, H', ⟨by have := HJ1.out; have := HJ30.out; have := HJ36.out; first | omega | exact Nat.le_refl _⟩, ⟨bk⟩, ⟨bz⟩⟩
            case rest =>
             clear HC42
             try clear c5
             try clear c5b0
             try clear c8
             try clear c8b0
             try clear c8b1
             try clear c16
             try clear c16b0
             try clear c21
             try clear c21b0
             try clear c29
             try clear c29b0
             try clear c29b1
             try clear c33
             try clear c33b0
             try clear c33b1
             try clear c35
             try clear c35b0
             try clear c35b1
             try clear c38
             try clear c38b0
             try clear c38b1
             try clear c39
             try clear c39b0
             try clear c39b1
             try clear c43
             try clear c43b0
             try clear c44
             try clear c44b0
             try clear c44b1
             try clear hcz10_0 hcz10_1 hcz10_2 hcz10_3 hcz10_4 hcz10_5 hcz10_6 hfz10_0 hfz10_1 hfz10_2 hfz10_3 hfz10_4 hfz10_5 hfz10_6
             try clear hcz13_0 hcz13_1 hcz13_2 hcz13_3 hcz13_4 hcz13_5 hcz13_6 hfz13_0 hfz13_1 hfz13_2 hfz13_3 hfz13_4 hfz13_5 hfz13_6
             try clear hcz15_0 hcz15_1 hcz15_2 hcz15_3 hcz15_4 hcz15_5 hcz15_6 hfz15_0 hfz15_1 hfz15_2 hfz15_3 hfz15_4 hfz15_5 hfz15_6
             try clear hcz24_0 hcz24_1 hcz24_2 hcz24_3 hcz24_4 hcz24_5 hcz24_6 hfz24_0 hfz24_1 hfz24_2 hfz24_3 hfz24_4 hfz24_5 hfz24_6
             try clear hcz32_0 hcz32_1 hcz32_2 hcz32_3 hcz32_4 hcz32_5 hcz32_6 hfz32_0 hfz32_1 hfz32_2 hfz32_3 hfz32_4 hfz32_5 hfz32_6
             try clear hcz40_0 hcz40_1 hcz40_2 hcz40_3 hcz40_4 hcz40_5 hcz40_6 hfz40_0 hfz40_1 hfz40_2 hfz40_3 hfz40_4 hfz40_5 hfz40_6
             try clear hcz41_0 hcz41_1 hcz41_2 hcz41_3 hcz41_4 hcz41_5 hcz41_6 hfz41_0 hfz41_1 hfz41_2 hfz41_3 hfz41_4 hfz41_5 hfz41_6
             try clear hcz4_0 hcz4_1 hcz4_2 hcz4_3 hcz4_4 hcz4_5 hcz4_6 hfz4_0 hfz4_1 hfz4_2 hfz4_3 hfz4_4 hfz4_5 hfz4_6
             obtain ⟨kq, x79_41, rfl, HA, HJ41, BK417, HB⟩ := hcut
             cases kq with
             | zero => exact absurd HA.out (by simp [floats_float_hex.j3])
             | succ kj41 =>
              have H := HA.out
              clear HA
              simp only [floats_float_hex.j3] at H
              by_cases c45 : x79_41 = true
              ·subst c45
               replace H := hT H
               obtain ⟨ji46, hji46⟩ : ∃ j_ : Int, (IntKind.u64.wrap (64 - (ji34))) = j_ := ⟨_, rfl⟩
               (first | rw [hji46] at H | simp only [hji46] at H)
               by_cases c47 : 0 ≤ (ji46)
               ·replace H := hE H c47
                have c47b0 := eq_true c47
                have c47b1 : decide (0 ≤ (ji46)) = true := decide_eq_true c47
                clear c47
                obtain ⟨ji48, hji48⟩ : ∃ j_ : Int, (shr .u64 (IntKind.u64.wrap (ji36 + 1)) (ji46)) = j_ := ⟨_, rfl⟩
                (first | rw [hji48] at H | simp only [hji48] at H)
                have hji48_ : ((IntKind.u64.wrap (ji36 + 1)) / 2 ^ min (ji46).toNat 64) = ji48 := hji48
                have hji48z : (ji46) ≤ 64 → ((IntKind.u64.wrap (ji36 + 1)) / 2 ^ (ji46).toNat) = ji48 := shr_small hji48
                by_cases c49 : (ji48) > 0
                ·replace H := hE H c49
                 have c49b0 : decide (0 < (ji48)) = true := decide_eq_true c49
                 clear c49
                 by_cases c50 : a0_4 > 0
                 ·replace H := hE H c50
                  have c50b0 : decide (0 < a0_4) = true := decide_eq_true c50
                  clear c50
                  by_cases c51 : 0 ≤ (ji34)
                  ·replace H := hE H c51
                   have c51b0 := eq_true c51
                   have c51b1 : decide (0 ≤ (ji34)) = true := decide_eq_true c51
                   clear c51
                   obtain ⟨ji52, hji52⟩ : ∃ j_ : Int, (shl .u64 0 (ji34)) = j_ := ⟨_, rfl⟩
                   (first | rw [hji52] at H | simp only [hji52] at H)
                   have hji52_ : (IntKind.u64.wrap (0 * 2 ^ min (ji34).toNat 64)) = ji52 := hji52
                   have hji52z : (ji34) ≤ 64 → (IntKind.u64.wrap (0 * 2 ^ (ji34).toNat)) = ji52 := shl_small hji52
                   have hz_ : ji52 = 0 := by rw [← hji52]; unfold shl; rw [Int.zero_mul]; rfl
                   subst hz_
                   replace H := bs H
                   obtain ⟨t423, A53, H⟩ := H
                   by_cases c54 : 0 ≤ a0_4
                   ·replace H := hE H c54
                    have c54b0 := eq_true c54
                    have c54b1 : decide (0 ≤ a0_4) = true := decide_eq_true c54
                    clear c54
                    by_cases c55 : a0_4 ≤ (t423.size : Int)
                    ·replace H := hE H c55
                     have c55b0 := eq_true c55
                     have c55b1 : decide (a0_4 ≤ (t423.size : Int)) = true := decide_eq_true c55
                     clear c55
                     have H' := Aside0.mk H
                     clear H
                     obtain ⟨hcz56_0, hcz56_1, hcz56_2, hcz56_3, hcz56_4, hcz56_5, hcz56_6, hfz56_0, hfz56_1, hfz56_2, hfz56_3, hfz56_4, hfz56_5, hfz56_6⟩ := cz7 (W := wc) BK417
                     try go_wp2
                     replace BK417 := Aside0.mk (blk_drew BK417.out)
                     replace HB := Aside0.mk (below_drew1 HB.out)
                     refine start_ (n := 8) (S := fun w' => w'.cell? ⟨gb417, 0, none⟩ = some (.int .u64 a0_0) ∧ w'.cell? ⟨gb417, 1, none⟩ = some (.int .i64 a0_1) ∧ w'.cell? ⟨gb417, 2, none⟩ = some (.int .u64 a0_2) ∧ w'.cell? ⟨gb417, 3, none⟩ = some (.int .i64 a0_3) ∧ w'.cell? ⟨gb417, 4, none⟩ = some (.int .i64 a0_4) ∧ w'.cell? ⟨gb417, 5, none⟩ = some (.bool a0_5) ∧ w'.cell? ⟨gb417, 6, none⟩ = some (.int .i32 a0_6)) (ds := []) #[false, false, false, false, false, false, false, false] (by kernel_rfl) rfl rfl ⟨(blk_cell BK417.out 0).trans rfl, (blk_cell BK417.out 1).trans rfl, (blk_cell BK417.out 2).trans rfl, (blk_cell BK417.out 3).trans rfl, (blk_cell BK417.out 4).trans rfl, (blk_cell BK417.out 5).trans rfl, (blk_cell BK417.out 6).trans rfl⟩ (fun hHeld => ?_); refine with_tabW floats_float_hex.tab23 floats_float_hex.bits23 (fun HT_ HW_ => ?_)
                     generalize wc.drew = w57 at BK417 HB hHeld ⊢
                     refine pure_ (i := 0) (N := some 92) (v := ?_) (a' := ?_) #[true, false, false, false, false, false, false, false] rfl rfl (any_of HT_.out (by kernel_rfl)) (fun _ _ _ h => h) (Or.inl ⟨by rfl, ?_⟩) ?_ ?_
                     rotate_left
                     ·intro w'
                      go_simp
                      with_reducible rfl
                     rotate_left
                     ·simp only [Act.put, List.setIfInBounds_toArray, List.set_cons_zero, List.set_cons_succ, i64_w, i32_w]
                      rfl
                     refine pure_ (i := 1) (N := some 93) (v := ?_) (a' := ?_) #[true, true, false, false, false, false, false, false] rfl rfl (any_of HT_.out (by kernel_rfl)) (fun _ _ _ h => h) (Or.inl ⟨by rfl, ?_⟩) ?_ ?_
                     rotate_left
                     ·intro w'
                      go_simp
                      with_reducible rfl
                     rotate_left
                     ·simp only [Act.put, List.setIfInBounds_toArray, List.set_cons_zero, List.set_cons_succ, i64_w, i32_w]
                      rfl
                     refine pure_ (i := 2) (N := some 94) (v := ?_) (a' := ?_) #[true, true, true, false, false, false, false, false] rfl rfl (any_of HT_.out (by kernel_rfl)) (fun _ _ _ h => h) (Or.inl ⟨by rfl, ?_⟩) ?_ ?_
                     rotate_left
                     ·intro w'
                      go_simp
                      with_reducible rfl
                     rotate_left
                     ·simp only [Act.put, List.setIfInBounds_toArray, List.set_cons_zero, List.set_cons_succ, i64_w, i32_w]
                      rfl
                     refine pure_ (i := 4) (N := some 96) (v := ?_) (a' := ?_) #[true, true, true, false, true, false, false, false] rfl rfl (any_of HT_.out (by kernel_rfl)) (fun _ _ _ h => h) (Or.inl ⟨by rfl, ?_⟩) ?_ ?_
                     rotate_left
                     ·intro w'
                      go_simp
                      with_reducible rfl
                     rotate_left
                     ·simp only [Act.put, List.setIfInBounds_toArray, List.set_cons_zero, List.set_cons_succ, i64_w, i32_w]
                      rfl
                     refine take_ (i := 5) (N := some 97) (v := ?_) (a' := ?_) #[true, true, true, false, true, true, false, false] rfl rfl (take_ofW HT_.out HW_.out (by kernel_rfl)) (fun _ _ _ h => h) (Or.inl ⟨by rfl, ?_⟩) hHeld ?_ ?_
                     rotate_left
                     ·rintro w' ⟨s0, s1, s2, s3, s4, s5, s6⟩
                      go_simp
                      with_reducible rfl
                     rotate_left
                     ·simp only [Act.put, List.setIfInBounds_toArray, List.set_cons_zero, List.set_cons_succ, i64_w, i32_w]
                      rfl
                     refine one_ (i := 3) (N := some 95) #[true, true, true, true, true, true, false, false] rfl rfl (one_of HT_.out (by kernel_rfl)) (by decide) (fun K hK => ?_)
                     refine goes_ Tryz.func113 (by kernel_rfl) rfl #[.int .u64 0] (by rfl) rfl rfl (by (try simp only [List.map_toArray, List.map_cons, List.map_nil]); first | done | (simp only [hji52]; rfl) | rfl | (simp only [List.length_drop, List.length_take]; rfl)) ?_
                     with_reducible refine (floats_sixteen.calls 0 t423 _ A53.out).mono ?_
                     rintro e w58 ⟨rfl, hb⟩
                     refine ⟨_, rfl, ?_⟩
                     replace BK417 := Aside0.mk (blk_below (g := gb417) (o := .cells #[.int .u64 a0_0, .int .i64 a0_1, .int .u64 a0_2, .int .i64 a0_3, .int .i64 a0_4, .bool a0_5, .int .i32 a0_6] 74 (0, 0)) bk hb)
                     replace HB := Aside0.mk (below_step bz hb)
                     (try clear hb)
                     (try clear hb2)
                     (try clear hk)
                     (try clear hi)
                     refine hK.out _ _ ⟨(blk_cell BK417.out 0).trans rfl, (blk_cell BK417.out 1).trans rfl, (blk_cell BK417.out 2).trans rfl, (blk_cell BK417.out 3).trans rfl, (blk_cell BK417.out 4).trans rfl, (blk_cell BK417.out 5).trans rfl, (blk_cell BK417.out 6).trans rfl⟩ (fun hHeld => ?_)
                     clear hK K
                     refine norm_ (a' := ?_) ?_ ?_
                     rotate_left
                     ·show Act.put _ (some 95) _ = _
                      simp only [Act.put, List.setIfInBounds_toArray, List.set_cons_zero, List.set_cons_succ, i64_w, i32_w]
                      rfl
                     refine pure_ (i := 6) (N := some 98) (v := ?_) (a' := ?_) #[true, true, true, true, true, true, true, false] rfl rfl (any_of HT_.out (by kernel_rfl)) (fun _ _ _ h => h) (Or.inl ⟨by rfl, ?_⟩) ?_ ?_
                     rotate_left
                     ·intro w'
                      go_simp
                      with_reducible rfl
                     rotate_left
                     ·simp only [Act.put, List.setIfInBounds_toArray, List.set_cons_zero, List.set_cons_succ, i64_w, i32_w]
                      rfl
                     refine pure_ (i := 7) (N := some 7) (v := ?_) (a' := ?_) #[true, true, true, true, true, true, true, true] rfl rfl (any_of HT_.out (by kernel_rfl)) (fun _ _ _ h => h) (Or.inl ⟨by rfl, ?_⟩) ?_ ?_
                     rotate_left
                     ·intro w'
                      go_simp
                      with_reducible rfl
                     rotate_left
                     ·simp only [Act.put, List.setIfInBounds_toArray, List.set_cons_zero, List.set_cons_succ, i64_w, i32_w]
                      rfl
                     refine done_ (done_of HT_.out (by kernel_rfl)) ?_
                     try go_wp2
                     go_meet
                     case rel => exact ⟨_, (wrap64 (x5_1 + 1)), (t423.extract 0 (a0_4 : Int).toNat), rz, rz, H', ⟨by have := HJ1.out; have := HJ30.out; have := HJ36.out; have := HJ41.out; first | omega | exact Nat.le_refl _⟩, ⟨bk⟩, ⟨bz⟩⟩
                    ·replace H := hN H c55
                     exact absurd H (by simp)
                   ·replace H := hN H c54
                    exact absurd H (by simp)
                  ·replace H := hN H c51
                   exact absurd H (by simp)
                 ·replace H := hN H c50
                  have c50b0 : decide (0 < a0_4) = false := decide_eq_false c50
                  clear c50
                  have H' := Aside0.mk H
                  clear H
                  obtain ⟨hcz59_0, hcz59_1, hcz59_2, hcz59_3, hcz59_4, hcz59_5, hcz59_6, hfz59_0, hfz59_1, hfz59_2, hfz59_3, hfz59_4, hfz59_5, hfz59_6⟩ := cz7 (W := wc) BK417
                  go_wp2
                  go_meet
                  case rel => exact ⟨_, (wrap64 (x5_1 + 1)), ((⟨#[]⟩ : ByteArray)), rz, rz, H', ⟨by have := HJ1.out; have := HJ30.out; have := HJ36.out; have := HJ41.out; first | omega | exact Nat.le_refl _⟩, ⟨bk⟩, ⟨bz⟩⟩
                ·replace H := hN H c49
                 have c49b0 : decide (0 < (ji48)) = false := decide_eq_false c49
                 clear c49
                 by_cases c60 : a0_4 > 0
                 ·replace H := hE H c60
                  have c60b0 : decide (0 < a0_4) = true := decide_eq_true c60
                  clear c60
                  by_cases c61 : 0 ≤ (ji34)
                  ·replace H := hE H c61
                   have c61b0 := eq_true c61
                   have c61b1 : decide (0 ≤ (ji34)) = true := decide_eq_true c61
                   clear c61
                   obtain ⟨ji62, hji62⟩ : ∃ j_ : Int, (shl .u64 (IntKind.u64.wrap (ji36 + 1)) (ji34)) = j_ := ⟨_, rfl⟩
                   (first | rw [hji62] at H | simp only [hji62] at H)
                   have hji62_ : (IntKind.u64.wrap ((IntKind.u64.wrap (ji36 + 1)) * 2 ^ min (ji34).toNat 64)) = ji62 := hji62
                   have hji62z : (ji34) ≤ 64 → (IntKind.u64.wrap ((IntKind.u64.wrap (ji36 + 1)) * 2 ^ (ji34).toNat)) = ji62 := shl_small hji62
                   replace H := bs H
                   obtain ⟨t424, A63, H⟩ := H
                   by_cases c64 : 0 ≤ a0_4
                   ·replace H := hE H c64
                    have c64b0 := eq_true c64
                    have c64b1 : decide (0 ≤ a0_4) = true := decide_eq_true c64
                    clear c64
                    by_cases c65 : a0_4 ≤ (t424.size : Int)
                    ·replace H := hE H c65
                     have c65b0 := eq_true c65
                     have c65b1 : decide (a0_4 ≤ (t424.size : Int)) = true := decide_eq_true c65
                     clear c65
                     have H' := Aside0.mk H
                     clear H
                     obtain ⟨hcz66_0, hcz66_1, hcz66_2, hcz66_3, hcz66_4, hcz66_5, hcz66_6, hfz66_0, hfz66_1, hfz66_2, hfz66_3, hfz66_4, hfz66_5, hfz66_6⟩ := cz7 (W := wc) BK417
                     try go_wp2
                     replace BK417 := Aside0.mk (blk_drew BK417.out)
                     replace HB := Aside0.mk (below_drew1 HB.out)
                     refine start_ (n := 8) (S := fun w' => w'.cell? ⟨gb417, 0, none⟩ = some (.int .u64 a0_0) ∧ w'.cell? ⟨gb417, 1, none⟩ = some (.int .i64 a0_1) ∧ w'.cell? ⟨gb417, 2, none⟩ = some (.int .u64 a0_2) ∧ w'.cell? ⟨gb417, 3, none⟩ = some (.int .i64 a0_3) ∧ w'.cell? ⟨gb417, 4, none⟩ = some (.int .i64 a0_4) ∧ w'.cell? ⟨gb417, 5, none⟩ = some (.bool a0_5) ∧ w'.cell? ⟨gb417, 6, none⟩ = some (.int .i32 a0_6)) (ds := []) #[false, false, false, false, false, false, false, false] (by kernel_rfl) rfl rfl ⟨(blk_cell BK417.out 0).trans rfl, (blk_cell BK417.out 1).trans rfl, (blk_cell BK417.out 2).trans rfl, (blk_cell BK417.out 3).trans rfl, (blk_cell BK417.out 4).trans rfl, (blk_cell BK417.out 5).trans rfl, (blk_cell BK417.out 6).trans rfl⟩ (fun hHeld => ?_); refine with_tabW floats_float_hex.tab23 floats_float_hex.bits23 (fun HT_ HW_ => ?_)
                     generalize wc.drew = w67 at BK417 HB hHeld ⊢
                     refine pure_ (i := 0) (N := some 92) (v := ?_) (a' := ?_) #[true, false, false, false, false, false, false, false] rfl rfl (any_of HT_.out (by kernel_rfl)) (fun _ _ _ h => h) (Or.inl ⟨by rfl, ?_⟩) ?_ ?_
                     rotate_left
                     ·intro w'
                      go_simp
                      with_reducible rfl
                     rotate_left
                     ·simp only [Act.put, List.setIfInBounds_toArray, List.set_cons_zero, List.set_cons_succ, i64_w, i32_w]
                      rfl
                     refine pure_ (i := 1) (N := some 93) (v := ?_) (a' := ?_) #[true, true, false, false, false, false, false, false] rfl rfl (any_of HT_.out (by kernel_rfl)) (fun _ _ _ h => h) (Or.inl ⟨by rfl, ?_⟩) ?_ ?_
                     rotate_left
                     ·intro w'
                      go_simp
                      with_reducible rfl
                     rotate_left
                     ·simp only [Act.put, List.setIfInBounds_toArray, List.set_cons_zero, List.set_cons_succ, i64_w, i32_w]
                      rfl
                     refine pure_ (i := 2) (N := some 94) (v := ?_) (a' := ?_) #[true, true, true, false, false, false, false, false] rfl rfl (any_of HT_.out (by kernel_rfl)) (fun _ _ _ h => h) (Or.inl ⟨by rfl, ?_⟩) ?_ ?_
                     rotate_left
                     ·intro w'
                      go_simp
                      with_reducible rfl
                     rotate_left
                     ·simp only [Act.put, List.setIfInBounds_toArray, List.set_cons_zero, List.set_cons_succ, i64_w, i32_w]
                      rfl
                     refine pure_ (i := 4) (N := some 96) (v := ?_) (a' := ?_) #[true, true, true, false, true, false, false, false] rfl rfl (any_of HT_.out (by kernel_rfl)) (fun _ _ _ h => h) (Or.inl ⟨by rfl, ?_⟩) ?_ ?_
                     rotate_left
                     ·intro w'
                      go_simp
                      with_reducible rfl
                     rotate_left
                     ·simp only [Act.put, List.setIfInBounds_toArray, List.set_cons_zero, List.set_cons_succ, i64_w, i32_w]
                      rfl
                     refine take_ (i := 5) (N := some 97) (v := ?_) (a' := ?_) #[true, true, true, false, true, true, false, false] rfl rfl (take_ofW HT_.out HW_.out (by kernel_rfl)) (fun _ _ _ h => h) (Or.inl ⟨by rfl, ?_⟩) hHeld ?_ ?_
                     rotate_left
                     ·rintro w' ⟨s0, s1, s2, s3, s4, s5, s6⟩
                      go_simp
                      with_reducible rfl
                     rotate_left
                     ·simp only [Act.put, List.setIfInBounds_toArray, List.set_cons_zero, List.set_cons_succ, i64_w, i32_w]
                      rfl
                     refine one_ (i := 3) (N := some 95) #[true, true, true, true, true, true, false, false] rfl rfl (one_of HT_.out (by kernel_rfl)) (by decide) (fun K hK => ?_)
                     refine goes_ Tryz.func113 (by kernel_rfl) rfl #[.int .u64 ji62] (by rfl) rfl rfl (by (try simp only [List.map_toArray, List.map_cons, List.map_nil]); first | done | (simp only [hji62]; rfl) | rfl | (simp only [List.length_drop, List.length_take]; rfl)) ?_
                     with_reducible refine (floats_sixteen.calls ji62 t424 _ A63.out).mono ?_
                     rintro e w68 ⟨rfl, hb⟩
                     refine ⟨_, rfl, ?_⟩
                     replace BK417 := Aside0.mk (blk_below (g := gb417) (o := .cells #[.int .u64 a0_0, .int .i64 a0_1, .int .u64 a0_2, .int .i64 a0_3, .int .i64 a0_4, .bool a0_5, .int .i32 a0_6] 74 (0, 0)) bk hb)
                     replace HB := Aside0.mk (below_step bz hb)
                     (try clear hb)
                     (try clear hb2)
                     (try clear hk)
                     (try clear hi)
                     refine hK.out _ _ ⟨(blk_cell BK417.out 0).trans rfl, (blk_cell BK417.out 1).trans rfl, (blk_cell BK417.out 2).trans rfl, (blk_cell BK417.out 3).trans rfl, (blk_cell BK417.out 4).trans rfl, (blk_cell BK417.out 5).trans rfl, (blk_cell BK417.out 6).trans rfl⟩ (fun hHeld => ?_)
                     clear hK K
                     refine norm_ (a' := ?_) ?_ ?_
                     rotate_left
                     ·show Act.put _ (some 95) _ = _
                      simp only [Act.put, List.setIfInBounds_toArray, List.set_cons_zero, List.set_cons_succ, i64_w, i32_w]
                      rfl
                     refine pure_ (i := 6) (N := some 98) (v := ?_) (a' := ?_) #[true, true, true, true, true, true, true, false] rfl rfl (any_of HT_.out (by kernel_rfl)) (fun _ _ _ h => h) (Or.inl ⟨by rfl, ?_⟩) ?_ ?_
                     rotate_left
                     ·intro w'
                      go_simp
                      with_reducible rfl
                     rotate_left
                     ·simp only [Act.put, List.setIfInBounds_toArray, List.set_cons_zero, List.set_cons_succ, i64_w, i32_w]
                      rfl
                     refine pure_ (i := 7) (N := some 7) (v := ?_) (a' := ?_) #[true, true, true, true, true, true, true, true] rfl rfl (any_of HT_.out (by kernel_rfl)) (fun _ _ _ h => h) (Or.inl ⟨by rfl, ?_⟩) ?_ ?_
                     rotate_left
                     ·intro w'
                      go_simp
                      with_reducible rfl
                     rotate_left
                     ·simp only [Act.put, List.setIfInBounds_toArray, List.set_cons_zero, List.set_cons_succ, i64_w, i32_w]
                      rfl
                     refine done_ (done_of HT_.out (by kernel_rfl)) ?_
                     try go_wp2
                     go_meet
                     case rel => exact ⟨_, (x5_1), (t424.extract 0 (a0_4 : Int).toNat), rz, rz, H', ⟨by have := HJ1.out; have := HJ30.out; have := HJ36.out; have := HJ41.out; first | omega | exact Nat.le_refl _⟩, ⟨bk⟩, ⟨bz⟩⟩
                    ·replace H := hN H c65
                     exact absurd H (by simp)
                   ·replace H := hN H c64
                    exact absurd H (by simp)
                  ·replace H := hN H c61
                   exact absurd H (by simp)
                 ·replace H := hN H c60
                  have c60b0 : decide (0 < a0_4) = false := decide_eq_false c60
                  clear c60
                  have H' := Aside0.mk H
                  clear H
                  obtain ⟨hcz69_0, hcz69_1, hcz69_2, hcz69_3, hcz69_4, hcz69_5, hcz69_6, hfz69_0, hfz69_1, hfz69_2, hfz69_3, hfz69_4, hfz69_5, hfz69_6⟩ := cz7 (W := wc) BK417
                  go_wp2
                  go_meet
                  case rel => exact ⟨_, (x5_1), ((⟨#[]⟩ : ByteArray)), rz, rz, H', ⟨by have := HJ1.out; have := HJ30.out; have := HJ36.out; have := HJ41.out; first | omega | exact Nat.le_refl _⟩, ⟨bk⟩, ⟨bz⟩⟩
               ·replace H := hN H c47
                exact absurd H (by simp)
              ·replace c45 := Bool.eq_false_iff.mpr c45
               subst c45
               replace H := hF H
               by_cases c70 : a0_4 > 0
               ·replace H := hE H c70
                have c70b0 : decide (0 < a0_4) = true := decide_eq_true c70
                clear c70
                by_cases c71 : 0 ≤ (ji34)
                ·replace H := hE H c71
                 have c71b0 := eq_true c71
                 have c71b1 : decide (0 ≤ (ji34)) = true := decide_eq_true c71
                 clear c71
                 obtain ⟨ji72, hji72⟩ : ∃ j_ : Int, (shl .u64 ji36 (ji34)) = j_ := ⟨_, rfl⟩
                 (first | rw [hji72] at H | simp only [hji72] at H)
                 have hji72_ : (IntKind.u64.wrap (ji36 * 2 ^ min (ji34).toNat 64)) = ji72 := hji72
                 have hji72z : (ji34) ≤ 64 → (IntKind.u64.wrap (ji36 * 2 ^ (ji34).toNat)) = ji72 := shl_small hji72
                 replace H := bs H
                 obtain ⟨t425, A73, H⟩ := H
                 by_cases c74 : 0 ≤ a0_4
                 ·replace H := hE H c74
                  have c74b0 := eq_true c74
                  have c74b1 : decide (0 ≤ a0_4) = true := decide_eq_true c74
                  clear c74
                  by_cases c75 : a0_4 ≤ (t425.size : Int)
                  ·replace H := hE H c75
                   have c75b0 := eq_true c75
                   have c75b1 : decide (a0_4 ≤ (t425.size : Int)) = true := decide_eq_true c75
                   clear c75
                   have H' := Aside0.mk H
                   clear H
                   obtain ⟨hcz76_0, hcz76_1, hcz76_2, hcz76_3, hcz76_4, hcz76_5, hcz76_6, hfz76_0, hfz76_1, hfz76_2, hfz76_3, hfz76_4, hfz76_5, hfz76_6⟩ := cz7 (W := wc) BK417
                   try go_wp2
                   replace BK417 := Aside0.mk (blk_drew BK417.out)
                   replace HB := Aside0.mk (below_drew1 HB.out)
                   refine start_ (n := 8) (S := fun w' => w'.cell? ⟨gb417, 0, none⟩ = some (.int .u64 a0_0) ∧ w'.cell? ⟨gb417, 1, none⟩ = some (.int .i64 a0_1) ∧ w'.cell? ⟨gb417, 2, none⟩ = some (.int .u64 a0_2) ∧ w'.cell? ⟨gb417, 3, none⟩ = some (.int .i64 a0_3) ∧ w'.cell? ⟨gb417, 4, none⟩ = some (.int .i64 a0_4) ∧ w'.cell? ⟨gb417, 5, none⟩ = some (.bool a0_5) ∧ w'.cell? ⟨gb417, 6, none⟩ = some (.int .i32 a0_6)) (ds := []) #[false, false, false, false, false, false, false, false] (by kernel_rfl) rfl rfl ⟨(blk_cell BK417.out 0).trans rfl, (blk_cell BK417.out 1).trans rfl, (blk_cell BK417.out 2).trans rfl, (blk_cell BK417.out 3).trans rfl, (blk_cell BK417.out 4).trans rfl, (blk_cell BK417.out 5).trans rfl, (blk_cell BK417.out 6).trans rfl⟩ (fun hHeld => ?_); refine with_tabW floats_float_hex.tab23 floats_float_hex.bits23 (fun HT_ HW_ => ?_)
                   generalize wc.drew = w77 at BK417 HB hHeld ⊢
                   refine pure_ (i := 0) (N := some 92) (v := ?_) (a' := ?_) #[true, false, false, false, false, false, false, false] rfl rfl (any_of HT_.out (by kernel_rfl)) (fun _ _ _ h => h) (Or.inl ⟨by rfl, ?_⟩) ?_ ?_
                   rotate_left
                   ·intro w'
                    go_simp
                    with_reducible rfl
                   rotate_left
                   ·simp only [Act.put, List.setIfInBounds_toArray, List.set_cons_zero, List.set_cons_succ, i64_w, i32_w]
                    rfl
                   refine pure_ (i := 1) (N := some 93) (v := ?_) (a' := ?_) #[true, true, false, false, false, false, false, false] rfl rfl (any_of HT_.out (by kernel_rfl)) (fun _ _ _ h => h) (Or.inl ⟨by rfl, ?_⟩) ?_ ?_
                   rotate_left
                   ·intro w'
                    go_simp
                    with_reducible rfl
                   rotate_left
                   ·simp only [Act.put, List.setIfInBounds_toArray, List.set_cons_zero, List.set_cons_succ, i64_w, i32_w]
                    rfl
                   refine pure_ (i := 2) (N := some 94) (v := ?_) (a' := ?_) #[true, true, true, false, false, false, false, false] rfl rfl (any_of HT_.out (by kernel_rfl)) (fun _ _ _ h => h) (Or.inl ⟨by rfl, ?_⟩) ?_ ?_
                   rotate_left
                   ·intro w'
                    go_simp
                    with_reducible rfl
                   rotate_left
                   ·simp only [Act.put, List.setIfInBounds_toArray, List.set_cons_zero, List.set_cons_succ, i64_w, i32_w]
                    rfl
                   refine pure_ (i := 4) (N := some 96) (v := ?_) (a' := ?_) #[true, true, true, false, true, false, false, false] rfl rfl (any_of HT_.out (by kernel_rfl)) (fun _ _ _ h => h) (Or.inl ⟨by rfl, ?_⟩) ?_ ?_
                   rotate_left
                   ·intro w'
                    go_simp
                    with_reducible rfl
                   rotate_left
                   ·simp only [Act.put, List.setIfInBounds_toArray, List.set_cons_zero, List.set_cons_succ, i64_w, i32_w]
                    rfl
                   refine take_ (i := 5) (N := some 97) (v := ?_) (a' := ?_) #[true, true, true, false, true, true, false, false] rfl rfl (take_ofW HT_.out HW_.out (by kernel_rfl)) (fun _ _ _ h => h) (Or.inl ⟨by rfl, ?_⟩) hHeld ?_ ?_
                   rotate_left
                   ·rintro w' ⟨s0, s1, s2, s3, s4, s5, s6⟩
                    go_simp
                    with_reducible rfl
                   rotate_left
                   ·simp only [Act.put, List.setIfInBounds_toArray, List.set_cons_zero, List.set_cons_succ, i64_w, i32_w]
                    rfl
                   refine one_ (i := 3) (N := some 95) #[true, true, true, true, true, true, false, false] rfl rfl (one_of HT_.out (by kernel_rfl)) (by decide) (fun K hK => ?_)
                   refine goes_ Tryz.func113 (by kernel_rfl) rfl #[.int .u64 ji72] (by rfl) rfl rfl (by (try simp only [List.map_toArray, List.map_cons, List.map_nil]); first | done | (simp only [hji72]; rfl) | rfl | (simp only [List.length_drop, List.length_take]; rfl)) ?_
                   with_reducible refine (floats_sixteen.calls ji72 t425 _ A73.out).mono ?_
                   rintro e w78 ⟨rfl, hb⟩
                   refine ⟨_, rfl, ?_⟩
                   replace BK417 := Aside0.mk (blk_below (g := gb417) (o := .cells #[.int .u64 a0_0, .int .i64 a0_1, .int .u64 a0_2, .int .i64 a0_3, .int .i64 a0_4, .bool a0_5, .int .i32 a0_6] 74 (0, 0)) bk hb)
                   replace HB := Aside0.mk (below_step bz hb)
                   (try clear hb)
                   (try clear hb2)
                   (try clear hk)
                   (try clear hi)
                   refine hK.out _ _ ⟨(blk_cell BK417.out 0).trans rfl, (blk_cell BK417.out 1).trans rfl, (blk_cell BK417.out 2).trans rfl, (blk_cell BK417.out 3).trans rfl, (blk_cell BK417.out 4).trans rfl, (blk_cell BK417.out 5).trans rfl, (blk_cell BK417.out 6).trans rfl⟩ (fun hHeld => ?_)
                   clear hK K
                   refine norm_ (a' := ?_) ?_ ?_
                   rotate_left
                   ·show Act.put _ (some 95) _ = _
                    simp only [Act.put, List.setIfInBounds_toArray, List.set_cons_zero, List.set_cons_succ, i64_w, i32_w]
                    rfl
                   refine pure_ (i := 6) (N := some 98) (v := ?_) (a' := ?_) #[true, true, true, true, true, true, true, false] rfl rfl (any_of HT_.out (by kernel_rfl)) (fun _ _ _ h => h) (Or.inl ⟨by rfl, ?_⟩) ?_ ?_
                   rotate_left
                   ·intro w'
                    go_simp
                    with_reducible rfl
                   rotate_left
                   ·simp only [Act.put, List.setIfInBounds_toArray, List.set_cons_zero, List.set_cons_succ, i64_w, i32_w]
                    rfl
                   refine pure_ (i := 7) (N := some 7) (v := ?_) (a' := ?_) #[true, true, true, true, true, true, true, true] rfl rfl (any_of HT_.out (by kernel_rfl)) (fun _ _ _ h => h) (Or.inl ⟨by rfl, ?_⟩) ?_ ?_
                   rotate_left
                   ·intro w'
                    go_simp
                    with_reducible rfl
                   rotate_left
                   ·simp only [Act.put, List.setIfInBounds_toArray, List.set_cons_zero, List.set_cons_succ, i64_w, i32_w]
                    rfl
                   refine done_ (done_of HT_.out (by kernel_rfl)) ?_
                   try go_wp2
                   go_meet
                   case rel => exact ⟨_, (x5_1), (t425.extract 0 (a0_4 : Int).toNat), rz, rz, H', ⟨by have := HJ1.out; have := HJ30.out; have := HJ36.out; have := HJ41.out; first | omega | exact Nat.le_refl _⟩, ⟨bk⟩, ⟨bz⟩⟩
                  ·replace H := hN H c75
                   exact absurd H (by simp)
                 ·replace H := hN H c74
                  exact absurd H (by simp)
                ·replace H := hN H c71
                 exact absurd H (by simp)
               ·replace H := hN H c70
                have c70b0 : decide (0 < a0_4) = false := decide_eq_false c70
                clear c70
                have H' := Aside0.mk H
                clear H
                obtain ⟨hcz79_0, hcz79_1, hcz79_2, hcz79_3, hcz79_4, hcz79_5, hcz79_6, hfz79_0, hfz79_1, hfz79_2, hfz79_3, hfz79_4, hfz79_5, hfz79_6⟩ := cz7 (W := wc) BK417
                go_wp2
                go_meet
                case rel => exact ⟨_, (x5_1), ((⟨#[]⟩ : ByteArray)), rz, rz, H', ⟨by have := HJ1.out; have := HJ30.out; have := HJ36.out; have := HJ41.out; first | omega | exact Nat.le_refl _⟩, ⟨bk⟩, ⟨bz⟩⟩
         ·replace H := hN H c35
          exact absurd H (by simp)
      ·replace H := hN H c29
       exact absurd H (by simp)
   case rest =>
    clear HC14
    try clear c5
    try clear c29
    try clear c35
    try clear c45
    try clear c47
    try clear c47b0
    try clear c47b1
    try clear c49
    try clear c49b0
    try clear c50
    try clear c50b0
    try clear c51
    try clear c51b0
    try clear c51b1
    try clear c54
    try clear c54b0
    try clear c54b1
    try clear c55
    try clear c55b0
    try clear c55b1
    try clear c60
    try clear c60b0
    try clear c61
    try clear c61b0
    try clear c61b1
    try clear c64
    try clear c64b0
    try clear c64b1
    try clear c65
    try clear c65b0
    try clear c65b1
    try clear c70
    try clear c70b0
    try clear c71
    try clear c71b0
    try clear c71b1
    try clear c74
    try clear c74b0
    try clear c74b1
    try clear c75
    try clear c75b0
    try clear c75b1
    try clear hcz4_5 hcz4_6 hfz4_0 hfz4_1 hfz4_2 hfz4_3 hfz4_4 hfz4_5 hfz4_6
    try clear hcz56_0 hcz56_1 hcz56_2 hcz56_3 hcz56_4 hcz56_5 hcz56_6 hfz56_0 hfz56_1 hfz56_2 hfz56_3 hfz56_4 hfz56_5 hfz56_6
    try clear hcz59_0 hcz59_1 hcz59_2 hcz59_3 hcz59_4 hcz59_5 hcz59_6 hfz59_0 hfz59_1 hfz59_2 hfz59_3 hfz59_4 hfz59_5 hfz59_6
    try clear hcz66_0 hcz66_1 hcz66_2 hcz66_3 hcz66_4 hcz66_5 hcz66_6 hfz66_0 hfz66_1 hfz66_2 hfz66_3 hfz66_4 hfz66_5 hfz66_6
    try clear hcz69_0 hcz69_1 hcz69_2 hcz69_3 hcz69_4 hcz69_5 hcz69_6 hfz69_0 hfz69_1 hfz69_2 hfz69_3 hfz69_4 hfz69_5 hfz69_6
    try clear hcz76_0 hcz76_1 hcz76_2 hcz76_3 hcz76_4 hcz76_5 hcz76_6 hfz76_0 hfz76_1 hfz76_2 hfz76_3 hfz76_4 hfz76_5 hfz76_6
    try clear hcz79_0 hcz79_1 hcz79_2 hcz79_3 hcz79_4 hcz79_5 hcz79_6 hfz79_0 hfz79_1 hfz79_2 hfz79_3 hfz79_4 hfz79_5 hfz79_6
    try clear hfz10_0 hfz10_1 hfz10_2 hfz10_3 hfz10_4 hfz10_5 hfz10_6
    try clear hfz13_0 hfz13_1 hfz13_2 hfz13_3 hfz13_4 hfz13_5 hfz13_6
    try clear hfz15_0 hfz15_1 hfz15_2 hfz15_3 hfz15_4 hfz15_5 hfz15_6
    try clear hfz24_0 hfz24_1 hfz24_2 hfz24_3 hfz24_4 hfz24_5 hfz24_6
    try clear hfz32_0 hfz32_1 hfz32_2 hfz32_3 hfz32_4 hfz32_5 hfz32_6
    try clear hfz40_0 hfz40_1 hfz40_2 hfz40_3 hfz40_4 hfz40_5 hfz40_6
    try clear hfz41_0 hfz41_1 hfz41_2 hfz41_3 hfz41_4 hfz41_5 hfz41_6
    obtain ⟨kq, x5_13, x7_13, rfl, rfl, HA, HJ13, BK417, HB⟩ := hcut
    cases kq with
    | zero => exact absurd HA.out (by simp [floats_float_hex.j4])
    | succ kj13 =>
     have H := HA.out
     clear HA
     simp only [floats_float_hex.j4] at H
     replace H := bs H
     obtain ⟨t426, A80, H⟩ := H
     replace H := bs H
     obtain ⟨t427, A81, H⟩ := H
     obtain ⟨y428, hy428⟩ : ∃ y_ : List ByteArray, y_ = (([(⟨#[48, 120]⟩ : ByteArray), t426, t427] : List ByteArray)) := ⟨_, rfl⟩
     replace H : ((floats_joined.f y428).bind fun t431 => (if a0_6 = 88 then ((strings_ToUpper.f t431).bind fun t432 => (some t432)) else (some t431))) = some r := by first | (rw [hy428]; with_reducible exact H) | (have H2_ := (Option.bind_some _ _).symm.trans H; rw [hy428]; with_reducible exact H2_) | (have H2_ := (Option.bind_some _ _).symm.trans H; with_reducible exact H2_) | with_reducible exact H | (rw [hy428]; exact H) | exact H
     have Ny428 := Aside0.mk hy428
     clear hy428
     replace H := bs H
     obtain ⟨t431, A82, H⟩ := H
     obtain ⟨hcz83_0, hcz83_1, hcz83_2, hcz83_3, hcz83_4, hcz83_5, hcz83_6, hfz83_0, hfz83_1, hfz83_2, hfz83_3, hfz83_4, hfz83_5, hfz83_6⟩ := cz7 (W := wc) BK417
     go_upto_if 109 with (first | ((with_reducible refine gate_callee (f := 107) rfl ?_); refine goesL_ (some 102) rfl rfl Tryz.func107 (by kernel_rfl) rfl #[.agg #[.int .u64 a0_0, .int .i64 a0_1, .int .u64 a0_2, .int .i64 a0_3, .int .i64 a0_4, .bool a0_5, .int .i32 a0_6], .string x3_1, .string x7_13] rfl lz ?_; (with_reducible refine (floats_float_pointed.calls a0_0 a0_1 a0_2 a0_3 a0_4 a0_5 a0_6 x3_1 x7_13 t426 _ A80.out).mono ?_); rintro e w84 ⟨rfl, hb⟩; refine ⟨_, rfl, ?_⟩; replace BK417 := kN (g := gb417) (cs := #[.int .u64 a0_0, .int .i64 a0_1, .int .u64 a0_2, .int .i64 a0_3, .int .i64 a0_4, .bool a0_5, .int .i32 a0_6]) hb bk; replace HB := bN bz hb; (try clear hb); (try clear hb2); (try clear hk); (try clear hi)) | ((with_reducible refine gate_callee (f := 111) rfl ?_); refine goesL_ (some 104) rfl rfl Tryz.func111 (by kernel_rfl) rfl #[.string (⟨#[112]⟩ : ByteArray), .int .i64 x5_13, .int .i64 2] rfl lz ?_; (with_reducible refine (floats_power.calls (⟨#[112]⟩ : ByteArray) x5_13 2 t427 _ A81.out).mono ?_); rintro e w85 ⟨rfl, hb⟩; refine ⟨_, rfl, ?_⟩; replace BK417 := kN (g := gb417) (cs := #[.int .u64 a0_0, .int .i64 a0_1, .int .u64 a0_2, .int .i64 a0_3, .int .i64 a0_4, .bool a0_5, .int .i32 a0_6]) hb bk; replace HB := bN bz hb; (try clear hb); (try clear hb2); (try clear hk); (try clear hi)) | ((with_reducible refine gate_dst (N := 105) rfl ?_); refine Kd.R_lit Kd.string _ 9 ?hg (N := 105) ?hd (xs := ([(⟨#[48, 120]⟩ : ByteArray), t426, t427] : List ByteArray)) (inner := [.string (⟨#[48, 120]⟩ : ByteArray), .string t426, .string t427]) (ok := fun _ => True) (okp := fun _ => True) ?hr ?hp (fun _ hk => hk) trivial (Below.refl _ _) (Nat.le_refl _) (by simp) ?_; (case hd => rfl); (case hg => rfl); (case hr => first | (go_simp; done) | (go_simp; rfl)); (case hp => exact (Reps.one (show Kd.M Kd.string _ _ _ (⟨#[48, 120]⟩ : ByteArray) [.string (⟨#[48, 120]⟩ : ByteArray)] from rfl) (Reps.one (show Kd.M Kd.string _ _ _ t426 [.string t426] from rfl) (Reps.one (show Kd.M Kd.string _ _ _ t427 [.string t427] from rfl) (Reps.none _ _))))); intro v429 w86 ho87 hb hg_ hnew_; clear hg_ hnew_; (first | rw [← Ny428.out] at ho87 | (simp only [Int.reduceToNat] at ho87; rw [← Ny428.out] at ho87)); have n0_ := Aside0.mk (Kd.R_lower ho87 (below_size bz)); have n1_ := Aside0.mk (blk_below (g := gb417) (o := .cells #[.int .u64 a0_0, .int .i64 a0_1, .int .u64 a0_2, .int .i64 a0_3, .int .i64 a0_4, .bool a0_5, .int .i32 a0_6] 74 (0, 0)) bk hb); have n2_ := Aside0.mk (below_step bz hb); clear BK417; clear HB; have HO430 := n0_; have BK417 := n1_; have HB := n2_; clear n0_ n1_ n2_; clear hb ho87; obtain ⟨Ao88, co88, eo88⟩ := Kd.R_slice HO430.out; subst eo88) | ((with_reducible refine gate_callee (f := 109) rfl ?_); refine goesL_ (some 106) rfl rfl Tryz.func109 (by kernel_rfl) rfl #[.slice Ao88 y428.length co88] rfl lz ?_; (with_reducible refine (floats_joined.calls _ _ y428 t431 _ ?side1 ?side2 A82.out).mono ?_); (case side1 => repeat (first | exact (Kd.R_reads' HO430.out).2.2 | (with_reducible refine Kd.C_alloc ?_ _) | (with_reducible refine Kd.C_drewN ?_ _) | (with_reducible refine Kd.C_drew ?_))); (case side2 => exact (Kd.R_reads' HO430.out).2.1); rintro e w89 ⟨rfl, hb⟩; refine ⟨_, rfl, ?_⟩; have n0_ := Aside0.mk (Kd.R_below (by (with_reducible repeat (first | apply Kd.R_alloc | apply Kd.R_drewN | apply Kd.R_drew)); exact HO430.out) hb); have n1_ := Aside0.mk (blk_below (g := gb417) (o := .cells #[.int .u64 a0_0, .int .i64 a0_1, .int .u64 a0_2, .int .i64 a0_3, .int .i64 a0_4, .bool a0_5, .int .i32 a0_6] 74 (0, 0)) bk hb); have n2_ := Aside0.mk (below_step bz hb); clear HO430; clear BK417; clear HB; have HO430 := n0_; have BK417 := n1_; have HB := n2_; clear n0_ n1_ n2_; (try clear hb); (try clear hb2); (try clear hk); (try clear hi); obtain ⟨hcz90_0, hcz90_1, hcz90_2, hcz90_3, hcz90_4, hcz90_5, hcz90_6, hfz90_0, hfz90_1, hfz90_2, hfz90_3, hfz90_4, hfz90_5, hfz90_6⟩ := cz7 (W := w89) BK417))
     (try simp only [Act.put, List.setIfInBounds_toArray, List.set_cons_zero, List.set_cons_succ])
     by_cases c91 : a0_6 = 88
     ·replace H := hE H c91
      obtain ⟨c91b0, c91b1⟩ := eT c91
      clear c91
      try first | rw [c91b0] | rw [c91b1]
      replace H := bs H
      obtain ⟨t432, A92, H⟩ := H
      obtain rfl := Option.some.inj H
      go_wp2_with (first | ((with_reducible refine gate_callee (f := 114) rfl ?_); refine goesL_ (some 111) rfl rfl Tryz.func114 (by kernel_rfl) rfl #[.string t431] rfl lz ?_; (with_reducible refine (strings_ToUpper.calls t431 t432 _ A92.out).mono ?_); rintro e w93 ⟨rfl, hb⟩; refine ⟨_, rfl, ?_⟩; have n0_ := Aside0.mk (Kd.R_below (by (with_reducible repeat (first | apply Kd.R_alloc | apply Kd.R_drewN | apply Kd.R_drew)); exact HO430.out) hb); have n1_ := Aside0.mk (blk_below (g := gb417) (o := .cells #[.int .u64 a0_0, .int .i64 a0_1, .int .u64 a0_2, .int .i64 a0_3, .int .i64 a0_4, .bool a0_5, .int .i32 a0_6] 74 (0, 0)) bk hb); have n2_ := Aside0.mk (below_step bz hb); clear HO430; clear BK417; clear HB; have HO430 := n0_; have BK417 := n1_; have HB := n2_; clear n0_ n1_ n2_; (try clear hb); (try clear hb2); (try clear hk); (try clear hi)))
      go_ret
      exact ⟨ez, bz⟩
     ·replace H := hN H c91
      obtain ⟨c91b0, c91b1⟩ := eF c91
      try first | rw [c91b0] | rw [c91b1]
      obtain rfl := Option.some.inj H
      go_wp2
      go_ret
      exact ⟨ez, bz⟩
end Go.Proofs.YtecpgdfnamkfdaaGreatDoor.Fn
end
section
namespace Go.Proofs.YtecpgdfnamkfdaaGreatDoor.Fn
open Go.RowKit Go.Proofs.YtecpgdfnamkfdaaGreatDoorW.PrintWords Go.Proofs.YtecpgdfnamkfdaaGreatDoorW.PrintLast Go.Proofs.YtecpgdfnamkfdaaGreatDoorW.PrintMore
attribute [local go_sem] fnW_0 fnW_1 fnW_2 fnW_3 fnW_4 fnW_5 fnW_guard fnW_eql max2_int min2_int max_two min_two
set_option linter.unusedVariables false
set_option linter.unusedSimpArgs false
theorem eqA42 (d : Nat) (w : World) (x0 y0 : ByteArray) (x1 y1 : Int) :
  (Op.equalIn (d + 2) 42 (.agg #[.string x0, .int .i64 x1]) (.agg #[.string y0, .int .i64 y1])).run Tryz.prog w = .ok (x0.toList == y0.toList && (x1 == y1)) w := by
 refine eqA_of Tryz.underlying42 (by kernel_rfl) ?_
 refine eqf_cons (by rfl) (by go_simp; rfl) (by go_simp; rfl) (by go_simp) ?_
 exact eqf_last (by rfl) (by go_simp; rfl) (by go_simp; rfl) (by go_simp)
end Go.Proofs.YtecpgdfnamkfdaaGreatDoor.Fn
end
