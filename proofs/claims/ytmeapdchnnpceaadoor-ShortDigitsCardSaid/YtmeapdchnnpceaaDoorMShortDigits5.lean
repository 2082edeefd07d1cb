/- The law ShortDigits: the walks through its functions and its plain law (part 5). Own texts and the kit's printed words for this seat, without what the law does not use: put together by merge.py (of this work). -/
import Derived.Test.YtmeapdchnnpceaaDoorMShortDigits4
section
namespace Go.Proofs.YtmeapdchnnpceaaDoor.Fn
open Go.RowKit Go.Proofs.YtmeapdchnnpceaaDoorW.PrintWords Go.Proofs.YtmeapdchnnpceaaDoorW.PrintLast Go.Proofs.YtmeapdchnnpceaaDoorW.PrintMore
attribute [local go_sem] min2_int min_two
set_option linter.unusedVariables false
set_option linter.unusedSimpArgs false
def short_best.l0 : Nat → Int → ByteArray → Int → ByteArray → Int → Bool → ByteArray → Int → ByteArray → Int → Option (ByteArray × Int × Bool)
 | 0, _, _, _, _, _, _, _, _, _, _ => none
 | k + 1, x59, x255000, x255001, x255002, x255003, x255004, x272000, x272001, x272002, x272003 => if x59 < 2 then (if x59 = 0 then ((short_span_in.f k x255000 x255001 x255002 x255003 x255004 x272000 x272001).bind fun t273 => (if t273 = true then (some (x272000, x272001, true)) else (short_best.l0 k (wrap64 (x59 + 1)) x255000 x255001 x255002 x255003 x255004 x272000 x272001 x272002 x272003))) else (if x59 = 1 then ((short_span_in.f k x255000 x255001 x255002 x255003 x255004 x272002 x272003).bind fun t275 => (if t275 = true then (some (x272002, x272003, true)) else (short_best.l0 k (wrap64 (x59 + 1)) x255000 x255001 x255002 x255003 x255004 x272000 x272001 x272002 x272003))) else (none))) else (some ((⟨#[]⟩ : ByteArray), 0, false))
def short_best.f (k : Nat) (a0_0 : ByteArray) (a0_1 : Int) (a1 : Int) (a2_0 : ByteArray) (a2_1 : Int) (a2_2 : ByteArray) (a2_3 : Int) (a2_4 : Bool) : Option (ByteArray × Int × Bool) := if a1 ≥ (a0_0.size : Int) then (some (a0_0, a0_1, true)) else ((bigdec_Round.f k a0_0 a0_1 a1).bind fun bt257 => ((short_span_in.f k a2_0 a2_1 a2_2 a2_3 a2_4 bt257.1 bt257.2.1).bind fun t261 => (if t261 = true then (some (bt257.1, bt257.2.1, true)) else (if 0 ≤ a1 then (if a1 ≤ (a0_0.size : Int) then ((bigdec_Norm.f k (a0_0.extract 0 (a1 : Int).toNat) a0_1).bind fun bt263 => ((bigdec_Add.f k bt263.1 bt263.2.1 (⟨#[49]⟩ : ByteArray) (wrap64 ((wrap64 (a0_1 - a1)) + 1))).bind fun bt267 => (short_best.l0 k 0 a2_0 a2_1 a2_2 a2_3 a2_4 bt263.1 bt263.2.1 bt267.1 bt267.2.1))) else (none)) else (none)))))
def short_best.T7 : Bool × List (List Nat × List Nat) := (true, [([], []), ([0], [0]), ([], []), ([1, 2], [1, 2]), ([], []), ([4], [4]), ([3, 5], [3, 5]), ([6], [6]), ([7], [7]), ([8], [8]), ([8], [8]), ([], []), ([11, 9, 7, 0, 1, 2, 3, 4, 5, 6, 7, 8, 9, 11], [9, 11]), ([10, 12, 0, 1, 2, 3, 4, 5, 6, 7, 8, 9, 10, 11, 12], [10])])
def short_best.B7 : List Nat := [0, 1, 0, 7, 0, 16, 63, 127, 255, 511, 511, 0, 3071, 8191]
theorem short_best.tab7 : rtab .any (opsOf Tryd.f43 7) = short_best.T7 := by kernel_rfl
theorem short_best.bits7 : waitsOk short_best.T7.2 short_best.B7 = true := by kernel_rfl
set_option maxHeartbeats 8000000 in
set_option maxRecDepth 100000 in
theorem short_best.calls (k : Nat) (a0_0 : ByteArray) (a0_1 : Int) (a1 : Int) (a2_0 : ByteArray) (a2_1 : Int) (a2_2 : ByteArray) (a2_3 : Int) (a2_4 : Bool) (r1 : ByteArray) (r2 : Int) (r3 : Bool) (w : World) (h : short_best.f k a0_0 a0_1 a1 a2_0 a2_1 a2_2 a2_3 a2_4 = some (r1, r2, r3)) :
  Calls Tryd.prog 43 #[.agg #[.string a0_0, .int .i64 a0_1], .int .i64 a1, .func (.func 42) #[.agg #[.string a2_0, .int .i64 a2_1, .string a2_2, .int .i64 a2_3, .bool a2_4]] #[]] w fun e w' => e = .returned (.tuple #[.agg #[.string r1, .int .i64 r2], .bool r3]) ∧ Below w.heap.size w w' := by
 have hu28 := Tryd.underlying28
 have hu85 := Tryd.underlying85
 have HB := Aside0.mk (Below.refl w.heap.size w)
 have H : (if a1 ≥ (a0_0.size : Int) then (some (a0_0, a0_1, true)) else ((bigdec_Round.f k a0_0 a0_1 a1).bind fun bt257 => ((short_span_in.f k a2_0 a2_1 a2_2 a2_3 a2_4 bt257.1 bt257.2.1).bind fun t261 => (if t261 = true then (some (bt257.1, bt257.2.1, true)) else (if 0 ≤ a1 then (if a1 ≤ (a0_0.size : Int) then ((bigdec_Norm.f k (a0_0.extract 0 (a1 : Int).toNat) a0_1).bind fun bt263 => ((bigdec_Add.f k bt263.1 bt263.2.1 (⟨#[49]⟩ : ByteArray) (wrap64 ((wrap64 (a0_1 - a1)) + 1))).bind fun bt267 => (short_best.l0 k 0 a2_0 a2_1 a2_2 a2_3 a2_4 bt263.1 bt263.2.1 bt267.1 bt267.2.1))) else (none)) else (none)))))) = some (r1, r2, r3) := h
 clear h
 go_enter Tryd.func43, Tryd.ntmps43
 go_upto_if 21 with (first | ((with_reducible refine gate_dst (N := 3) rfl ?_); refine box_event rfl (N := 3) rfl (cs := #[.string a0_0, .int .i64 a0_1]) (t := 28) gz ?_; intro gb255 hg w4 hbox hb; have GE255 := gN bz hg; have BK255 := Aside0.mk hbox; replace HB := bN bz hb; clear hb hbox hg) | ((with_reducible refine gate_dst (N := 6) rfl ?_); refine box_event rfl (N := 6) rfl (cs := #[.string (⟨#[]⟩ : ByteArray), .int .i64 0]) (t := 28) gz ?_; intro gb256 hg w5 hbox hb; have GE256 := gN bz hg; have NB255_256 := lN (g := gb255) (cs := #[.string a0_0, .int .i64 a0_1]) hg bk; have NB256_255 := rN (g := gb255) (cs := #[.string a0_0, .int .i64 a0_1]) hg bk; replace BK255 := kN (g := gb255) (cs := #[.string a0_0, .int .i64 a0_1]) hb bk; have BK256 := Aside0.mk hbox; replace HB := bN bz hb; clear hb hbox hg; have hnb6 := NB255_256.out; have hnc6 := NB256_255.out; obtain ⟨hcz7_0, hcz7_1, hfz7_0, hfz7_1⟩ := cz2 (W := w5) BK255))
 (try simp only [Act.put, List.setIfInBounds_toArray, List.set_cons_zero, List.set_cons_succ])
 by_cases c8 : a1 ≥ (a0_0.size : Int)
 ·rw [if_pos c8] at H
  have c8b0 : decide ((a0_0.size : Int) ≤ a1) = true := decide_eq_true c8
  clear c8
  try rw [c8b0]
  simp only [Option.some.injEq, Prod.mk.injEq] at H
  obtain ⟨rfl, rfl, rfl⟩ := H
  have hnb9 := NB255_256.out
  have hnc9 := NB256_255.out
  obtain ⟨hcz10_0, hcz10_1, hfz10_0, hfz10_1⟩ := cz2 (W := w5) BK255
  obtain ⟨hcz11_0, hcz11_1, hfz11_0, hfz11_1⟩ := cz2 (W := w5) BK256
  go_wp2
  refine bodyPost_ret (results_ct rfl _ _ gb256 28 #[.string a0_0, .int .i64 a0_1] (0, 0) _ rfl bk Tryd.underlying28 rfl (by kernel_rfl)) rfl ?_
  exact ⟨ez, bz⟩
 ·rw [if_neg c8] at H
  have c8b0 : decide ((a0_0.size : Int) ≤ a1) = false := decide_eq_false c8
  clear c8
  try rw [c8b0]
  replace H := bs H
  obtain ⟨⟨t257, t258, t259⟩, A12, H⟩ := H
  dsimp only at H
  replace H := bs H
  obtain ⟨t261, A13, H⟩ := H
  have hnb14 := NB255_256.out
  have hnc14 := NB256_255.out
  obtain ⟨hcz15_0, hcz15_1, hfz15_0, hfz15_1⟩ := cz2 (W := w5) BK255
  go_upto_if 31 with (first | ((with_reducible refine gate_callee (f := 24) rfl ?_); refine goesL_ (some 26) rfl rfl Tryd.func24 (by kernel_rfl) rfl #[.agg #[.string a0_0, .int .i64 a0_1], .int .i64 a1] rfl lz ?_; (with_reducible refine (bigdec_Round.calls k a0_0 a0_1 a1 t257 t258 t259 _ A12.out).mono ?_); rintro e w16 ⟨rfl, hb⟩; refine ⟨_, rfl, ?_⟩; replace BK255 := kN (g := gb255) (cs := #[.string a0_0, .int .i64 a0_1]) hb bk; replace BK256 := kN (g := gb256) (cs := #[.string (⟨#[]⟩ : ByteArray), .int .i64 0]) hb bk; replace HB := bN bz hb; (try clear hb); (try clear hb2); (try clear hk); (try clear hi)) | ((with_reducible refine gate_dst (N := 8) rfl ?_); refine box_event rfl (N := 8) rfl (cs := #[.string (⟨#[]⟩ : ByteArray), .int .i64 0]) (t := 28) gz ?_; intro gb260 hg w17 hbox hb; have GE260 := gN bz hg; have NB255_260 := lN (g := gb255) (cs := #[.string a0_0, .int .i64 a0_1]) hg bk; have NB260_255 := rN (g := gb255) (cs := #[.string a0_0, .int .i64 a0_1]) hg bk; have NB256_260 := lN (g := gb256) (cs := #[.string (⟨#[]⟩ : ByteArray), .int .i64 0]) hg bk; have NB260_256 := rN (g := gb256) (cs := #[.string (⟨#[]⟩ : ByteArray), .int .i64 0]) hg bk; replace BK255 := kN (g := gb255) (cs := #[.string a0_0, .int .i64 a0_1]) hb bk; replace BK256 := kN (g := gb256) (cs := #[.string (⟨#[]⟩ : ByteArray), .int .i64 0]) hb bk; have BK260 := Aside0.mk hbox; replace HB := bN bz hb; clear hb hbox hg; have hnb18 := NB260_255.out; have hnc18 := NB255_260.out; have hnb19 := NB260_256.out; have hnc19 := NB256_260.out; obtain ⟨hcz20_0, hcz20_1, hfz20_0, hfz20_1⟩ := cz2 (W := w17) BK260) | (go_at_call 42; (with_reducible refine (short_span_in.calls k a2_0 a2_1 a2_2 a2_3 a2_4 t257 t258 t261 _ A13.out).mono ?_); rintro e w21 ⟨rfl, hb⟩; replace BK255 := kN (g := gb255) (cs := #[.string a0_0, .int .i64 a0_1]) hb bk; replace BK256 := kN (g := gb256) (cs := #[.string (⟨#[]⟩ : ByteArray), .int .i64 0]) hb bk; replace BK260 := kN (g := gb260) (cs := #[.string t257, .int .i64 t258]) hb bk; replace HB := bN bz hb; (try clear hb); (try clear hb2); (try clear hk); (try clear hi)))
  (try simp only [Act.put, List.setIfInBounds_toArray, List.set_cons_zero, List.set_cons_succ])
  by_cases c22 : t261 = true
  ·subst c22
   replace H := hT H
   simp only [Option.some.injEq, Prod.mk.injEq] at H
   obtain ⟨rfl, rfl, rfl⟩ := H
   have hnb23 := NB260_255.out
   have hnc23 := NB255_260.out
   have hnb24 := NB260_256.out
   have hnc24 := NB256_260.out
   obtain ⟨hcz25_0, hcz25_1, hfz25_0, hfz25_1⟩ := cz2 (W := w21) BK260
   have hnb26 := NB256_255.out
   have hnc26 := NB255_256.out
   obtain ⟨hcz27_0, hcz27_1, hfz27_0, hfz27_1⟩ := cz2 (W := w21) BK256
   go_wp2
   refine bodyPost_ret (results_ct rfl _ _ gb256 28 #[.string t257, .int .i64 t258] (0, 0) _ rfl bk Tryd.underlying28 rfl (by kernel_rfl)) rfl ?_
   exact ⟨ez, bz⟩
  ·replace c22 := Bool.eq_false_iff.mpr c22
   subst c22
   replace H := hF H
   by_cases c28 : 0 ≤ a1
   ·rw [if_pos c28] at H
    have c28b0 := eq_true c28
    have c28b1 : decide (0 ≤ a1) = true := decide_eq_true c28
    clear c28
    by_cases c29 : a1 ≤ (a0_0.size : Int)
    ·rw [if_pos c29] at H
     have c29b0 := eq_true c29
     have c29b1 : decide (a1 ≤ (a0_0.size : Int)) = true := decide_eq_true c29
     clear c29
     replace H := bs H
     obtain ⟨⟨t263, t264, t265⟩, A30, H⟩ := H
     dsimp only at H
     replace H := bs H
     obtain ⟨⟨t267, t268, t269⟩, A31, H⟩ := H
     dsimp only at H
     have H' := Aside0.mk H
     clear H
     have hnb32 := NB255_256.out
     have hnc32 := NB256_255.out
     have hnb33 := NB255_260.out
     have hnc33 := NB260_255.out
     obtain ⟨hcz34_0, hcz34_1, hfz34_0, hfz34_1⟩ := cz2 (W := w21) BK255
     try go_wp2_with (first | ((with_reducible refine gate_dst (N := 10) rfl ?_); refine box_event rfl (N := 10) rfl (cs := #[.string (⟨#[]⟩ : ByteArray), .int .i64 0]) (t := 28) gz ?_; intro gb262 hg w35 hbox hb; have GE262 := gN bz hg; have NB255_262 := lN (g := gb255) (cs := #[.string a0_0, .int .i64 a0_1]) hg bk; have NB262_255 := rN (g := gb255) (cs := #[.string a0_0, .int .i64 a0_1]) hg bk; have NB256_262 := lN (g := gb256) (cs := #[.string (⟨#[]⟩ : ByteArray), .int .i64 0]) hg bk; have NB262_256 := rN (g := gb256) (cs := #[.string (⟨#[]⟩ : ByteArray), .int .i64 0]) hg bk; have NB260_262 := lN (g := gb260) (cs := #[.string t257, .int .i64 t258]) hg bk; have NB262_260 := rN (g := gb260) (cs := #[.string t257, .int .i64 t258]) hg bk; replace BK255 := kN (g := gb255) (cs := #[.string a0_0, .int .i64 a0_1]) hb bk; replace BK256 := kN (g := gb256) (cs := #[.string (⟨#[]⟩ : ByteArray), .int .i64 0]) hb bk; replace BK260 := kN (g := gb260) (cs := #[.string t257, .int .i64 t258]) hb bk; have BK262 := Aside0.mk hbox; replace HB := bN bz hb; clear hb hbox hg; have hnb36 := NB262_255.out; have hnc36 := NB255_262.out; have hnb37 := NB262_256.out; have hnc37 := NB256_262.out; have hnb38 := NB262_260.out; have hnc38 := NB260_262.out; obtain ⟨hcz39_0, hcz39_1, hfz39_0, hfz39_1⟩ := cz2 (W := w35) BK262))
     have n0_ : Aside0 (((w35.setCell ⟨gb262, 0, none⟩ (.string (⟨#[49]⟩ : ByteArray))).setCell ⟨gb262, 1, none⟩ (.int .i64 (wrap64 ((wrap64 (a0_1 - a1)) + 1)))).heap[gb255]? = some (.cells #[.string a0_0, .int .i64 a0_1] 28 (0, 0))) := ⟨bk⟩
     have n1_ : Aside0 (((w35.setCell ⟨gb262, 0, none⟩ (.string (⟨#[49]⟩ : ByteArray))).setCell ⟨gb262, 1, none⟩ (.int .i64 (wrap64 ((wrap64 (a0_1 - a1)) + 1)))).heap[gb256]? = some (.cells #[.string (⟨#[]⟩ : ByteArray), .int .i64 0] 28 (0, 0))) := ⟨bk⟩
     have n2_ : Aside0 (((w35.setCell ⟨gb262, 0, none⟩ (.string (⟨#[49]⟩ : ByteArray))).setCell ⟨gb262, 1, none⟩ (.int .i64 (wrap64 ((wrap64 (a0_1 - a1)) + 1)))).heap[gb260]? = some (.cells #[.string t257, .int .i64 t258] 28 (0, 0))) := ⟨bk⟩
     have n3_ : Aside0 (((w35.setCell ⟨gb262, 0, none⟩ (.string (⟨#[49]⟩ : ByteArray))).setCell ⟨gb262, 1, none⟩ (.int .i64 (wrap64 ((wrap64 (a0_1 - a1)) + 1)))).heap[gb262]? = some (.cells #[.string (⟨#[49]⟩ : ByteArray), .int .i64 (wrap64 ((wrap64 (a0_1 - a1)) + 1))] 28 (0, 0))) := ⟨bk⟩
     have n4_ : Aside0 (Below w.heap.size w ((w35.setCell ⟨gb262, 0, none⟩ (.string (⟨#[49]⟩ : ByteArray))).setCell ⟨gb262, 1, none⟩ (.int .i64 (wrap64 ((wrap64 (a0_1 - a1)) + 1))))) := ⟨bz⟩
     (try clear BK255)
     (try clear BK256)
     (try clear BK260)
     (try clear BK262)
     (try clear HB)
     generalize ((w35.setCell ⟨gb262, 0, none⟩ (.string (⟨#[49]⟩ : ByteArray))).setCell ⟨gb262, 1, none⟩ (.int .i64 (wrap64 ((wrap64 (a0_1 - a1)) + 1)))) = w40 at n0_ n1_ n2_ n3_ n4_ ⊢
     have BK255 := n0_
     have BK256 := n1_
     have BK260 := n2_
     have BK262 := n3_
     have HB := n4_
     clear n0_ n1_ n2_ n3_ n4_
     replace BK255 := Aside0.mk (blk_drew BK255.out)
     replace BK256 := Aside0.mk (blk_drew BK256.out)
     replace BK260 := Aside0.mk (blk_drew BK260.out)
     replace BK262 := Aside0.mk (blk_drew BK262.out)
     replace HB := Aside0.mk (below_drew1 HB.out)
     refine start_ (n := 14) (S := fun w' => w'.cell? ⟨gb255, 0, none⟩ = some (.string a0_0) ∧ w'.cell? ⟨gb255, 1, none⟩ = some (.int .i64 a0_1)) (ds := []) #[false, false, false, false, false, false, false, false, false, false, false, false, false, false] (by kernel_rfl) rfl rfl ⟨(blk_cell BK255.out 0).trans rfl, (blk_cell BK255.out 1).trans rfl⟩ (fun hHeld => ?_); refine with_tabW short_best.tab7 short_best.bits7 (fun HT_ HW_ => ?_)
     generalize w40.drew = w41 at BK255 BK256 BK260 BK262 HB hHeld ⊢
     refine pure_ (i := 0) (N := some 40) (v := ?_) (a' := ?_) #[true, false, false, false, false, false, false, false, false, false, false, false, false, false] rfl rfl (any_of HT_.out (by kernel_rfl)) (fun _ _ _ h => h) (Or.inl ⟨by rfl, ?_⟩) ?_ ?_
     rotate_left
     ·intro w'
      go_simp
      with_reducible rfl
     rotate_left
     ·simp only [Act.put, List.setIfInBounds_toArray, List.set_cons_zero, List.set_cons_succ, i64_w, i32_w]
      rfl
     refine pure_ (i := 2) (N := some 42) (v := ?_) (a' := ?_) #[true, false, true, false, false, false, false, false, false, false, false, false, false, false] rfl rfl (any_of HT_.out (by kernel_rfl)) (fun _ _ _ h => h) (Or.inl ⟨by rfl, ?_⟩) ?_ ?_
     rotate_left
     ·intro w'
      go_simp
      with_reducible rfl
     rotate_left
     ·simp only [Act.put, List.setIfInBounds_toArray, List.set_cons_zero, List.set_cons_succ, i64_w, i32_w]
      rfl
     refine pure_ (i := 4) (N := some 44) (v := ?_) (a' := ?_) #[true, false, true, false, true, false, false, false, false, false, false, false, false, false] rfl rfl (any_of HT_.out (by kernel_rfl)) (fun _ _ _ h => h) (Or.inl ⟨by rfl, ?_⟩) ?_ ?_
     rotate_left
     ·intro w'
      go_simp
      with_reducible rfl
     rotate_left
     ·simp only [Act.put, List.setIfInBounds_toArray, List.set_cons_zero, List.set_cons_succ, i64_w, i32_w]
      rfl
     refine take_ (i := 1) (N := some 41) (v := ?_) (a' := ?_) #[true, true, true, false, true, false, false, false, false, false, false, false, false, false] rfl rfl (take_ofW HT_.out HW_.out (by kernel_rfl)) (fun _ _ _ h => h) (Or.inl ⟨by rfl, ?_⟩) hHeld ?_ ?_
     rotate_left
     ·rintro w' ⟨s0, s1⟩
      go_simp
      with_reducible rfl
     rotate_left
     ·simp only [Act.put, List.setIfInBounds_toArray, List.set_cons_zero, List.set_cons_succ, i64_w, i32_w]
      rfl
     refine pure_ (i := 3) (N := some 43) (v := ?_) (a' := ?_) #[true, true, true, true, true, false, false, false, false, false, false, false, false, false] rfl rfl (any_of HT_.out (by kernel_rfl)) (fun _ _ _ h => h) (Or.inl ⟨by rfl, ?_⟩) ?_ ?_
     rotate_left
     ·intro w'
      go_simp
      with_reducible rfl
     rotate_left
     ·simp only [Act.put, List.setIfInBounds_toArray, List.set_cons_zero, List.set_cons_succ, i64_w, i32_w]
      rfl
     refine take_ (i := 5) (N := some 45) (v := ?_) (a' := ?_) #[true, true, true, true, true, true, false, false, false, false, false, false, false, false] rfl rfl (take_ofW HT_.out HW_.out (by kernel_rfl)) (fun _ _ _ h => h) (Or.inl ⟨by rfl, ?_⟩) hHeld ?_ ?_
     rotate_left
     ·rintro w' ⟨s0, s1⟩
      go_simp
      with_reducible rfl
     rotate_left
     ·simp only [Act.put, List.setIfInBounds_toArray, List.set_cons_zero, List.set_cons_succ, i64_w, i32_w]
      rfl
     refine pure_ (i := 6) (N := some 46) (v := ?_) (a' := ?_) #[true, true, true, true, true, true, true, false, false, false, false, false, false, false] rfl rfl (any_of HT_.out (by kernel_rfl)) (fun _ _ _ h => h) (Or.inl ⟨by rfl, ?_⟩) ?_ ?_
     rotate_left
     ·intro w'
      go_simp
      with_reducible rfl
     rotate_left
     ·simp only [Act.put, List.setIfInBounds_toArray, List.set_cons_zero, List.set_cons_succ, i64_w, i32_w]
      rfl
     refine join_ (σ := Nat) 2 #[true, true, true, true, true, true, true, true, true, true, true, true, false, false] (fun s_ => [(47, .tuple #[.agg #[.string t263, .int .i64 t264], .int .i64 t265]), (11, .pointer (some ⟨s_, 0, none⟩)), (39, .tuple #[.agg #[.string t263, .int .i64 t264], .int .i64 t265]), (48, .agg #[.string t263, .int .i64 t264]), (49, .int .i64 t265)]) (fun s_ w' => (w'.cell? ⟨gb255, 0, none⟩ = some (.string a0_0) ∧ w'.cell? ⟨gb255, 1, none⟩ = some (.int .i64 a0_1)) ∧ (w'.heap[gb255]? = some (.cells #[.string a0_0, .int .i64 a0_1] 28 (0, 0))) ∧ (w'.heap[gb256]? = some (.cells #[.string (⟨#[]⟩ : ByteArray), .int .i64 0] 28 (0, 0))) ∧ (w'.heap[gb260]? = some (.cells #[.string t257, .int .i64 t258] 28 (0, 0))) ∧ (w'.heap[gb262]? = some (.cells #[.string (⟨#[49]⟩ : ByteArray), .int .i64 (wrap64 ((wrap64 (a0_1 - a1)) + 1))] 28 (0, 0))) ∧ (w'.heap[s_]? = some (.cells #[.string (⟨#[]⟩ : ByteArray), .int .i64 0] 28 (0, 0))) ∧ (w.heap.size ≤ s_) ∧ (w.heap.size ≤ s_) ∧ (gb255 ≠ s_) ∧ (s_ ≠ gb255) ∧ (gb256 ≠ s_) ∧ (s_ ≠ gb256) ∧ (gb260 ≠ s_) ∧ (s_ ≠ gb260) ∧ (gb262 ≠ s_) ∧ (s_ ≠ gb262) ∧ (Below w.heap.size w w')) ?_ ?_
     rotate_left
     ·intro hCont
      refine two_ (i := 7) (j := 11) (Ni := some 47) (Nj := some 11) #[true, true, true, true, true, true, true, true, false, false, false, false, false, false] #[true, true, true, true, true, true, true, false, false, false, false, true, false, false] rfl rfl rfl rfl (two_of HT_.out (by kernel_rfl)) (by decide) (by decide) (fun K hK => ?_) (fun K hK => ?_)
      ·skip
       refine goes_ Tryd.func32 (by kernel_rfl) rfl #[.agg #[.string (a0_0.extract 0 (a1 : Int).toNat), .int .i64 a0_1]] (by rfl) rfl rfl lz ?_
       with_reducible refine (bigdec_Norm.calls k (a0_0.extract 0 (a1 : Int).toNat) a0_1 t263 t264 t265 _ A30.out).mono ?_
       rintro e w42 ⟨rfl, hb⟩
       refine ⟨_, rfl, ?_⟩
       replace BK255 := Aside0.mk (blk_below (g := gb255) (o := .cells #[.string a0_0, .int .i64 a0_1] 28 (0, 0)) bk hb)
       replace BK256 := Aside0.mk (blk_below (g := gb256) (o := .cells #[.string (⟨#[]⟩ : ByteArray), .int .i64 0] 28 (0, 0)) bk hb)
       replace BK260 := Aside0.mk (blk_below (g := gb260) (o := .cells #[.string t257, .int .i64 t258] 28 (0, 0)) bk hb)
       replace BK262 := Aside0.mk (blk_below (g := gb262) (o := .cells #[.string (⟨#[49]⟩ : ByteArray), .int .i64 (wrap64 ((wrap64 (a0_1 - a1)) + 1))] 28 (0, 0)) bk hb)
       replace HB := Aside0.mk (below_step bz hb)
       (try clear hb)
       (try clear hb2)
       (try clear hk)
       (try clear hi)
       refine hK.out _ _ ⟨(blk_cell BK255.out 0).trans rfl, (blk_cell BK255.out 1).trans rfl⟩ (fun hHeld => ?_)
       clear hK K
       refine norm_ (a' := ?_) ?_ ?_
       rotate_left
       ·show Act.put _ (some 47) _ = _
        simp only [Act.put, List.setIfInBounds_toArray, List.set_cons_zero, List.set_cons_succ, i64_w, i32_w]
        rfl
       refine pure_ (i := 8) (N := some 39) (v := ?_) (a' := ?_) #[true, true, true, true, true, true, true, true, true, false, false, false, false, false] rfl rfl (any_of HT_.out (by kernel_rfl)) (fun _ _ _ h => h) (Or.inl ⟨by rfl, ?_⟩) ?_ ?_
       rotate_left
       ·intro w'
        go_simp
        with_reducible rfl
       rotate_left
       ·simp only [Act.put, List.setIfInBounds_toArray, List.set_cons_zero, List.set_cons_succ, i64_w, i32_w]
        rfl
       refine pure_ (i := 9) (N := some 48) (v := ?_) (a' := ?_) #[true, true, true, true, true, true, true, true, true, true, false, false, false, false] rfl rfl (any_of HT_.out (by kernel_rfl)) (fun _ _ _ h => h) (Or.inl ⟨by rfl, ?_⟩) ?_ ?_
       rotate_left
       ·intro w'
        go_simp
        with_reducible rfl
       rotate_left
       ·simp only [Act.put, List.setIfInBounds_toArray, List.set_cons_zero, List.set_cons_succ, i64_w, i32_w]
        rfl
       refine pure_ (i := 10) (N := some 49) (v := ?_) (a' := ?_) #[true, true, true, true, true, true, true, true, true, true, true, false, false, false] rfl rfl (any_of HT_.out (by kernel_rfl)) (fun _ _ _ h => h) (Or.inl ⟨by rfl, ?_⟩) ?_ ?_
       rotate_left
       ·intro w'
        go_simp
        with_reducible rfl
       rotate_left
       ·simp only [Act.put, List.setIfInBounds_toArray, List.set_cons_zero, List.set_cons_succ, i64_w, i32_w]
        rfl
       refine one_ (i := 11) (N := some 11) #[true, true, true, true, true, true, true, true, true, true, true, true, false, false] rfl rfl (one_of HT_.out (by kernel_rfl)) (by decide) (fun K hK => ?_)
       refine box_step ?hg (N := 11) ?hd (cs := #[.string (⟨#[]⟩ : ByteArray), .int .i64 0]) (t := 28) ?hr ?_; (case hd => rfl); (case hg => rfl); (case hr => first | (go_simp; done) | (go_simp; rfl))
       intro gb266 hg w43 hbox hb
       have BK266 := Aside0.mk (hbox)
       have GW266 := Aside0.mk ((by rw [hg]; exact (below_size bz) : w.heap.size ≤ gb266))
       have GE266 := Aside0.mk ((by rw [hg]; exact (below_size bz) : w.heap.size ≤ gb266))
       have NB255_266 := Aside0.mk ((by rw [hg]; exact Nat.ne_of_lt (blk_lt (g := gb255) (o := .cells #[.string a0_0, .int .i64 a0_1] 28 (0, 0)) bk) : gb255 ≠ gb266))
       have NB266_255 := Aside0.mk ((by rw [hg]; exact Nat.ne_of_gt (blk_lt (g := gb255) (o := .cells #[.string a0_0, .int .i64 a0_1] 28 (0, 0)) bk) : gb266 ≠ gb255))
       have NB256_266 := Aside0.mk ((by rw [hg]; exact Nat.ne_of_lt (blk_lt (g := gb256) (o := .cells #[.string (⟨#[]⟩ : ByteArray), .int .i64 0] 28 (0, 0)) bk) : gb256 ≠ gb266))
       have NB266_256 := Aside0.mk ((by rw [hg]; exact Nat.ne_of_gt (blk_lt (g := gb256) (o := .cells #[.string (⟨#[]⟩ : ByteArray), .int .i64 0] 28 (0, 0)) bk) : gb266 ≠ gb256))
       have NB260_266 := Aside0.mk ((by rw [hg]; exact Nat.ne_of_lt (blk_lt (g := gb260) (o := .cells #[.string t257, .int .i64 t258] 28 (0, 0)) bk) : gb260 ≠ gb266))
       have NB266_260 := Aside0.mk ((by rw [hg]; exact Nat.ne_of_gt (blk_lt (g := gb260) (o := .cells #[.string t257, .int .i64 t258] 28 (0, 0)) bk) : gb266 ≠ gb260))
       have NB262_266 := Aside0.mk ((by rw [hg]; exact Nat.ne_of_lt (blk_lt (g := gb262) (o := .cells #[.string (⟨#[49]⟩ : ByteArray), .int .i64 (wrap64 ((wrap64 (a0_1 - a1)) + 1))] 28 (0, 0)) bk) : gb262 ≠ gb266))
       have NB266_262 := Aside0.mk ((by rw [hg]; exact Nat.ne_of_gt (blk_lt (g := gb262) (o := .cells #[.string (⟨#[49]⟩ : ByteArray), .int .i64 (wrap64 ((wrap64 (a0_1 - a1)) + 1))] 28 (0, 0)) bk) : gb266 ≠ gb262))
       replace BK255 := Aside0.mk (blk_below (g := gb255) (o := .cells #[.string a0_0, .int .i64 a0_1] 28 (0, 0)) bk hb)
       replace BK256 := Aside0.mk (blk_below (g := gb256) (o := .cells #[.string (⟨#[]⟩ : ByteArray), .int .i64 0] 28 (0, 0)) bk hb)
       replace BK260 := Aside0.mk (blk_below (g := gb260) (o := .cells #[.string t257, .int .i64 t258] 28 (0, 0)) bk hb)
       replace BK262 := Aside0.mk (blk_below (g := gb262) (o := .cells #[.string (⟨#[49]⟩ : ByteArray), .int .i64 (wrap64 ((wrap64 (a0_1 - a1)) + 1))] 28 (0, 0)) bk hb)
       replace HB := Aside0.mk (below_step bz hb)
       clear hb hbox hg
       refine hK.out _ _ ⟨(blk_cell BK255.out 0).trans rfl, (blk_cell BK255.out 1).trans rfl⟩ (fun hHeld => ?_)
       clear hK K
       refine norm_ (a' := ?_) ?_ ?_
       rotate_left
       ·show Act.put _ (some 11) _ = _
        simp only [Act.put, List.setIfInBounds_toArray, List.set_cons_zero, List.set_cons_succ, i64_w, i32_w]
        rfl
       exact norm_ (by simp only [putAll, Act.put, List.setIfInBounds_toArray, List.set_cons_zero, List.set_cons_succ]) (hCont (gb266) _ ⟨hHeld, bk, bk, bk, bk, bk, GW266.out, GE266.out, NB255_266.out, NB266_255.out, NB256_266.out, NB266_256.out, NB260_266.out, NB266_260.out, NB262_266.out, NB266_262.out, bz⟩)
      ·skip
       refine box_step ?hg (N := 11) ?hd (cs := #[.string (⟨#[]⟩ : ByteArray), .int .i64 0]) (t := 28) ?hr ?_; (case hd => rfl); (case hg => rfl); (case hr => first | (go_simp; done) | (go_simp; rfl))
       intro gb266 hg w42 hbox hb
       have BK266 := Aside0.mk (hbox)
       have GW266 := Aside0.mk ((by rw [hg]; exact (below_size bz) : w.heap.size ≤ gb266))
       have GE266 := Aside0.mk ((by rw [hg]; exact (below_size bz) : w.heap.size ≤ gb266))
       have NB255_266 := Aside0.mk ((by rw [hg]; exact Nat.ne_of_lt (blk_lt (g := gb255) (o := .cells #[.string a0_0, .int .i64 a0_1] 28 (0, 0)) bk) : gb255 ≠ gb266))
       have NB266_255 := Aside0.mk ((by rw [hg]; exact Nat.ne_of_gt (blk_lt (g := gb255) (o := .cells #[.string a0_0, .int .i64 a0_1] 28 (0, 0)) bk) : gb266 ≠ gb255))
       have NB256_266 := Aside0.mk ((by rw [hg]; exact Nat.ne_of_lt (blk_lt (g := gb256) (o := .cells #[.string (⟨#[]⟩ : ByteArray), .int .i64 0] 28 (0, 0)) bk) : gb256 ≠ gb266))
       have NB266_256 := Aside0.mk ((by rw [hg]; exact Nat.ne_of_gt (blk_lt (g := gb256) (o := .cells #[.string (⟨#[]⟩ : ByteArray), .int .i64 0] 28 (0, 0)) bk) : gb266 ≠ gb256))
       have NB260_266 := Aside0.mk ((by rw [hg]; exact Nat.ne_of_lt (blk_lt (g := gb260) (o := .cells #[.string t257, .int .i64 t258] 28 (0, 0)) bk) : gb260 ≠ gb266))
       have NB266_260 := Aside0.mk ((by rw [hg]; exact Nat.ne_of_gt (blk_lt (g := gb260) (o := .cells #[.string t257, .int .i64 t258] 28 (0, 0)) bk) : gb266 ≠ gb260))
       have NB262_266 := Aside0.mk ((by rw [hg]; exact Nat.ne_of_lt (blk_lt (g := gb262) (o := .cells #[.string (⟨#[49]⟩ : ByteArray), .int .i64 (wrap64 ((wrap64 (a0_1 - a1)) + 1))] 28 (0, 0)) bk) : gb262 ≠ gb266))
       have NB266_262 := Aside0.mk ((by rw [hg]; exact Nat.ne_of_gt (blk_lt (g := gb262) (o := .cells #[.string (⟨#[49]⟩ : ByteArray), .int .i64 (wrap64 ((wrap64 (a0_1 - a1)) + 1))] 28 (0, 0)) bk) : gb266 ≠ gb262))
       replace BK255 := Aside0.mk (blk_below (g := gb255) (o := .cells #[.string a0_0, .int .i64 a0_1] 28 (0, 0)) bk hb)
       replace BK256 := Aside0.mk (blk_below (g := gb256) (o := .cells #[.string (⟨#[]⟩ : ByteArray), .int .i64 0] 28 (0, 0)) bk hb)
       replace BK260 := Aside0.mk (blk_below (g := gb260) (o := .cells #[.string t257, .int .i64 t258] 28 (0, 0)) bk hb)
       replace BK262 := Aside0.mk (blk_below (g := gb262) (o := .cells #[.string (⟨#[49]⟩ : ByteArray), .int .i64 (wrap64 ((wrap64 (a0_1 - a1)) + 1))] 28 (0, 0)) bk hb)
       replace HB := Aside0.mk (below_step bz hb)
       clear hb hbox hg
       refine hK.out _ _ ⟨(blk_cell BK255.out 0).trans rfl, (blk_cell BK255.out 1).trans rfl⟩ (fun hHeld => ?_)
       clear hK K
       refine norm_ (a' := ?_) ?_ ?_
       rotate_left
       ·show Act.put _ (some 11) _ = _
        simp only [Act.put, List.setIfInBounds_toArray, List.set_cons_zero, List.set_cons_succ, i64_w, i32_w]
        rfl
       refine one_ (i := 7) (N := some 47) #[true, true, true, true, true, true, true, true, false, false, false, true, false, false] rfl rfl (one_of HT_.out (by kernel_rfl)) (by decide) (fun K hK => ?_)
       refine goes_ Tryd.func32 (by kernel_rfl) rfl #[.agg #[.string (a0_0.extract 0 (a1 : Int).toNat), .int .i64 a0_1]] (by rfl) rfl rfl lz ?_
       with_reducible refine (bigdec_Norm.calls k (a0_0.extract 0 (a1 : Int).toNat) a0_1 t263 t264 t265 _ A30.out).mono ?_
       rintro e w43 ⟨rfl, hb⟩
       refine ⟨_, rfl, ?_⟩
       replace BK255 := Aside0.mk (blk_below (g := gb255) (o := .cells #[.string a0_0, .int .i64 a0_1] 28 (0, 0)) bk hb)
       replace BK256 := Aside0.mk (blk_below (g := gb256) (o := .cells #[.string (⟨#[]⟩ : ByteArray), .int .i64 0] 28 (0, 0)) bk hb)
       replace BK260 := Aside0.mk (blk_below (g := gb260) (o := .cells #[.string t257, .int .i64 t258] 28 (0, 0)) bk hb)
       replace BK262 := Aside0.mk (blk_below (g := gb262) (o := .cells #[.string (⟨#[49]⟩ : ByteArray), .int .i64 (wrap64 ((wrap64 (a0_1 - a1)) + 1))] 28 (0, 0)) bk hb)
       replace BK266 := Aside0.mk (blk_below (g := gb266) (o := .cells #[.string (⟨#[]⟩ : ByteArray), .int .i64 0] 28 (0, 0)) bk hb)
       replace HB := Aside0.mk (below_step bz hb)
       (try clear hb)
       (try clear hb2)
       (try clear hk)
       (try clear hi)
       refine hK.out _ _ ⟨(blk_cell BK255.out 0).trans rfl, (blk_cell BK255.out 1).trans rfl⟩ (fun hHeld => ?_)
       clear hK K
       refine norm_ (a' := ?_) ?_ ?_
       rotate_left
       ·show Act.put _ (some 47) _ = _
        simp only [Act.put, List.setIfInBounds_toArray, List.set_cons_zero, List.set_cons_succ, i64_w, i32_w]
        rfl
       refine pure_ (i := 8) (N := some 39) (v := ?_) (a' := ?_) #[true, true, true, true, true, true, true, true, true, false, false, true, false, false] rfl rfl (any_of HT_.out (by kernel_rfl)) (fun _ _ _ h => h) (Or.inl ⟨by rfl, ?_⟩) ?_ ?_
       rotate_left
       ·intro w'
        go_simp
        with_reducible rfl
       rotate_left
       ·simp only [Act.put, List.setIfInBounds_toArray, List.set_cons_zero, List.set_cons_succ, i64_w, i32_w]
        rfl
       refine pure_ (i := 9) (N := some 48) (v := ?_) (a' := ?_) #[true, true, true, true, true, true, true, true, true, true, false, true, false, false] rfl rfl (any_of HT_.out (by kernel_rfl)) (fun _ _ _ h => h) (Or.inl ⟨by rfl, ?_⟩) ?_ ?_
       rotate_left
       ·intro w'
        go_simp
        with_reducible rfl
       rotate_left
       ·simp only [Act.put, List.setIfInBounds_toArray, List.set_cons_zero, List.set_cons_succ, i64_w, i32_w]
        rfl
       refine pure_ (i := 10) (N := some 49) (v := ?_) (a' := ?_) #[true, true, true, true, true, true, true, true, true, true, true, true, false, false] rfl rfl (any_of HT_.out (by kernel_rfl)) (fun _ _ _ h => h) (Or.inl ⟨by rfl, ?_⟩) ?_ ?_
       rotate_left
       ·intro w'
        go_simp
        with_reducible rfl
       rotate_left
       ·simp only [Act.put, List.setIfInBounds_toArray, List.set_cons_zero, List.set_cons_succ, i64_w, i32_w]
        rfl
       exact norm_ (by simp only [putAll, Act.put, List.setIfInBounds_toArray, List.set_cons_zero, List.set_cons_succ]) (hCont (gb266) _ ⟨hHeld, bk, bk, bk, bk, bk, GW266.out, GE266.out, NB255_266.out, NB266_255.out, NB256_266.out, NB266_256.out, NB260_266.out, NB266_260.out, NB262_266.out, NB266_262.out, bz⟩)
     rintro gb266 w44 ⟨hS_, h0_, h1_, h2_, h3_, h4_, h5_, h6_, h7_, h8_, h9_, h10_, h11_, h12_, h13_, h14_, h15_⟩
     have n0_ : Aside0 (w44.heap[gb255]? = some (.cells #[.string a0_0, .int .i64 a0_1] 28 (0, 0))) := ⟨h0_⟩
     have n1_ : Aside0 (w44.heap[gb256]? = some (.cells #[.string (⟨#[]⟩ : ByteArray), .int .i64 0] 28 (0, 0))) := ⟨h1_⟩
     have n2_ : Aside0 (w44.heap[gb260]? = some (.cells #[.string t257, .int .i64 t258] 28 (0, 0))) := ⟨h2_⟩
     have n3_ : Aside0 (w44.heap[gb262]? = some (.cells #[.string (⟨#[49]⟩ : ByteArray), .int .i64 (wrap64 ((wrap64 (a0_1 - a1)) + 1))] 28 (0, 0))) := ⟨h3_⟩
     have n4_ : Aside0 (w44.heap[gb266]? = some (.cells #[.string (⟨#[]⟩ : ByteArray), .int .i64 0] 28 (0, 0))) := ⟨h4_⟩
     have n5_ : Aside0 (w.heap.size ≤ gb266) := ⟨h5_⟩
     have n6_ : Aside0 (w.heap.size ≤ gb266) := ⟨h6_⟩
     have n7_ : Aside0 (gb255 ≠ gb266) := ⟨h7_⟩
     have n8_ : Aside0 (gb266 ≠ gb255) := ⟨h8_⟩
     have n9_ : Aside0 (gb256 ≠ gb266) := ⟨h9_⟩
     have n10_ : Aside0 (gb266 ≠ gb256) := ⟨h10_⟩
     have n11_ : Aside0 (gb260 ≠ gb266) := ⟨h11_⟩
     have n12_ : Aside0 (gb266 ≠ gb260) := ⟨h12_⟩
     have n13_ : Aside0 (gb262 ≠ gb266) := ⟨h13_⟩
     have n14_ : Aside0 (gb266 ≠ gb262) := ⟨h14_⟩
     have n15_ : Aside0 (Below w.heap.size w w44) := ⟨h15_⟩
     clear BK255
     clear BK256
     clear BK260
     clear BK262
     clear HB
     clear h0_ h1_ h2_ h3_ h4_ h5_ h6_ h7_ h8_ h9_ h10_ h11_ h12_ h13_ h14_ h15_
     have BK255 := n0_
     have BK256 := n1_
     have BK260 := n2_
     have BK262 := n3_
     have BK266 := n4_
     have GW266 := n5_
     have GE266 := n6_
     have NB255_266 := n7_
     have NB266_255 := n8_
     have NB256_266 := n9_
     have NB266_256 := n10_
     have NB260_266 := n11_
     have NB266_260 := n12_
     have NB262_266 := n13_
     have NB266_262 := n14_
     have HB := n15_
     clear n0_ n1_ n2_ n3_ n4_ n5_ n6_ n7_ n8_ n9_ n10_ n11_ n12_ n13_ n14_ n15_
     have hHeld : w44.cell? ⟨gb255, 0, none⟩ = some (.string a0_0) ∧ w44.cell? ⟨gb255, 1, none⟩ = some (.int .i64 a0_1) := hS_
     refine norm_ (a' := ?_) ?_ ?_
     rotate_left
     ·simp only [putAll, Act.put, List.setIfInBounds_toArray, List.set_cons_zero, List.set_cons_succ]
      rfl
     refine one_ (i := 12) (N := none) #[true, true, true, true, true, true, true, true, true, true, true, true, true, false] rfl rfl (one_of HT_.out (by kernel_rfl)) (by decide) (fun K hK => ?_)
     have hs45 : w44.cell? ⟨gb266, 0, none⟩ = some (.string (⟨#[]⟩ : ByteArray)) := (blk_cell BK266.out 0).trans rfl
     have hfs45 := blk_frozen BK266.out 0
     have hns45_0 := NB255_266.out
     have hns45_1 := NB256_266.out
     have hns45_2 := NB260_266.out
     have hns45_3 := NB262_266.out
     have hms45_0 := NB266_255.out
     have hms45_1 := NB266_256.out
     have hms45_2 := NB266_260.out
     have hms45_3 := NB266_262.out
     have hs46 : w44.cell? ⟨gb266, 1, none⟩ = some (.int .i64 0) := (blk_cell BK266.out 1).trans rfl
     have hfs46 := blk_frozen BK266.out 1
     have hns46_0 := NB255_266.out
     have hns46_1 := NB256_266.out
     have hns46_2 := NB260_266.out
     have hns46_3 := NB262_266.out
     have hms46_0 := NB266_255.out
     have hms46_1 := NB266_256.out
     have hms46_2 := NB266_260.out
     have hms46_3 := NB266_262.out
     refine skip_ (w1 := ?_) (by rfl) rfl ?_ ?_
     rotate_left
     ·go_simp
      rfl
     refine hK.out _ _ ⟨((cell_far (p := ⟨gb266, _, none⟩) NB255_266.out _).trans (((cell_far (p := ⟨gb266, _, none⟩) NB255_266.out _).trans (hHeld.1)))), ((cell_far (p := ⟨gb266, _, none⟩) NB255_266.out _).trans (((cell_far (p := ⟨gb266, _, none⟩) NB255_266.out _).trans (hHeld.2))))⟩ (fun hHeld => ?_)
     clear hK K
     refine pure_ (i := 13) (N := some 12) (v := ?_) (a' := ?_) #[true, true, true, true, true, true, true, true, true, true, true, true, true, true] rfl rfl (any_of HT_.out (by kernel_rfl)) (fun _ _ _ h => h) (Or.inl ⟨by rfl, ?_⟩) ?_ ?_
     rotate_left
     ·intro w'
      go_simp
      with_reducible rfl
     rotate_left
     ·simp only [Act.put, List.setIfInBounds_toArray, List.set_cons_zero, List.set_cons_succ, i64_w, i32_w]
      rfl
     refine done_ (done_of HT_.out (by kernel_rfl)) ?_
     have hnb47 := NB266_255.out
     have hnc47 := NB255_266.out
     have hnb48 := NB266_256.out
     have hnc48 := NB256_266.out
     have hnb49 := NB266_260.out
     have hnc49 := NB260_266.out
     have hnb50 := NB266_262.out
     have hnc50 := NB262_266.out
     obtain ⟨hcz51_0, hcz51_1, hfz51_0, hfz51_1⟩ := cz2 (W := w44) BK266
     obtain ⟨hcz52_0, hcz52_1, hfz52_0, hfz52_1⟩ := cz2 (W := w44) BK262
     try go_wp2_with (first | ((with_reducible refine gate_callee (f := 23) rfl ?_); refine goesL_ (some 53) rfl rfl Tryd.func23 (by kernel_rfl) rfl #[.agg #[.string t263, .int .i64 t264], .agg #[.string (⟨#[49]⟩ : ByteArray), .int .i64 (wrap64 ((wrap64 (a0_1 - a1)) + 1))]] rfl lz ?_; (with_reducible refine (bigdec_Add.calls k t263 t264 (⟨#[49]⟩ : ByteArray) (wrap64 ((wrap64 (a0_1 - a1)) + 1)) t267 t268 t269 _ A31.out).mono ?_); rintro e w53 ⟨rfl, hb⟩; refine ⟨_, rfl, ?_⟩; replace BK255 := kN (g := gb255) (cs := #[.string a0_0, .int .i64 a0_1]) hb bk; replace BK256 := kN (g := gb256) (cs := #[.string (⟨#[]⟩ : ByteArray), .int .i64 0]) hb bk; replace BK260 := kN (g := gb260) (cs := #[.string t257, .int .i64 t258]) hb bk; replace BK262 := kN (g := gb262) (cs := #[.string (⟨#[49]⟩ : ByteArray), .int .i64 (wrap64 ((wrap64 (a0_1 - a1)) + 1))]) hb bk; replace BK266 := kN (g := gb266) (cs := #[.string t263, .int .i64 t264]) hb bk; replace HB := bN bz hb; (try clear hb); (try clear hb2); (try clear hk); (try clear hi)) | ((with_reducible refine gate_dst (N := 13) rfl ?_); refine box_event rfl (N := 13) rfl (cs := #[.string (⟨#[]⟩ : ByteArray), .int .i64 0]) (t := 28) gz ?_; intro gb270 hg w54 hbox hb; have GE270 := gN bz hg; have NB255_270 := lN (g := gb255) (cs := #[.string a0_0, .int .i64 a0_1]) hg bk; have NB270_255 := rN (g := gb255) (cs := #[.string a0_0, .int .i64 a0_1]) hg bk; have NB256_270 := lN (g := gb256) (cs := #[.string (⟨#[]⟩ : ByteArray), .int .i64 0]) hg bk; have NB270_256 := rN (g := gb256) (cs := #[.string (⟨#[]⟩ : ByteArray), .int .i64 0]) hg bk; have NB260_270 := lN (g := gb260) (cs := #[.string t257, .int .i64 t258]) hg bk; have NB270_260 := rN (g := gb260) (cs := #[.string t257, .int .i64 t258]) hg bk; have NB262_270 := lN (g := gb262) (cs := #[.string (⟨#[49]⟩ : ByteArray), .int .i64 (wrap64 ((wrap64 (a0_1 - a1)) + 1))]) hg bk; have NB270_262 := rN (g := gb262) (cs := #[.string (⟨#[49]⟩ : ByteArray), .int .i64 (wrap64 ((wrap64 (a0_1 - a1)) + 1))]) hg bk; have NB266_270 := lN (g := gb266) (cs := #[.string t263, .int .i64 t264]) hg bk; have NB270_266 := rN (g := gb266) (cs := #[.string t263, .int .i64 t264]) hg bk; replace BK255 := kN (g := gb255) (cs := #[.string a0_0, .int .i64 a0_1]) hb bk; replace BK256 := kN (g := gb256) (cs := #[.string (⟨#[]⟩ : ByteArray), .int .i64 0]) hb bk; replace BK260 := kN (g := gb260) (cs := #[.string t257, .int .i64 t258]) hb bk; replace BK262 := kN (g := gb262) (cs := #[.string (⟨#[49]⟩ : ByteArray), .int .i64 (wrap64 ((wrap64 (a0_1 - a1)) + 1))]) hb bk; replace BK266 := kN (g := gb266) (cs := #[.string t263, .int .i64 t264]) hb bk; have BK270 := Aside0.mk hbox; replace HB := bN bz hb; clear hb hbox hg; have hnb55 := NB270_255.out; have hnc55 := NB255_270.out; have hnb56 := NB270_256.out; have hnc56 := NB256_270.out; have hnb57 := NB270_260.out; have hnc57 := NB260_270.out; have hnb58 := NB270_262.out; have hnc58 := NB262_270.out; have hnb59 := NB270_266.out; have hnc59 := NB266_270.out; obtain ⟨hcz60_0, hcz60_1, hfz60_0, hfz60_1⟩ := cz2 (W := w54) BK270; obtain ⟨hcz61_0, hcz61_1, hfz61_0, hfz61_1⟩ := cz2 (W := w54) BK266))
     go_loopg [59] k (fun kq v59 w' => ∃ (x59_1 : Int) (x257000_1 : ByteArray) (x257001_1 : Int), v59 = .int .i64 x59_1 ∧ Aside0 (short_best.l0 kq x59_1 a2_0 a2_1 a2_2 a2_3 a2_4 t263 t264 t267 t268 = some (r1, r2, r3)) ∧ Aside0 (kq ≤ k) ∧ Aside0 (w'.heap[gb255]? = some (.cells #[.string a0_0, .int .i64 a0_1] 28 (0, 0))) ∧ Aside0 (w'.heap[gb256]? = some (.cells #[.string x257000_1, .int .i64 x257001_1] 28 (0, 0))) ∧ Aside0 (w'.heap[gb260]? = some (.cells #[.string t257, .int .i64 t258] 28 (0, 0))) ∧ Aside0 (w'.heap[gb262]? = some (.cells #[.string (⟨#[49]⟩ : ByteArray), .int .i64 (wrap64 ((wrap64 (a0_1 - a1)) + 1))] 28 (0, 0))) ∧ Aside0 (w'.heap[gb266]? = some (.cells #[.string t263, .int .i64 t264] 28 (0, 0))) ∧ Aside0 (w'.heap[gb270]? = some (.cells #[.string t267, .int .i64 t268] 28 (0, 0))) ∧ Aside0 (Below w.heap.size w w'))
     case atStart => exact ⟨(0), ((⟨#[]⟩ : ByteArray)), (0), rz, H', ⟨Nat.le_refl _⟩, ⟨bk⟩, ⟨bk⟩, ⟨bk⟩, ⟨bk⟩, ⟨bk⟩, ⟨bk⟩, ⟨bz⟩⟩
     case round =>
      clear H'
      try clear c8
      try clear c8b0
      try clear c22
      try clear c28
      try clear c28b0
      try clear c28b1
      try clear c29
      try clear c29b0
      try clear c29b1
      try clear hcz10_0 hcz10_1 hfz10_0 hfz10_1
      try clear hcz11_0 hcz11_1 hfz11_0 hfz11_1
      try clear hcz15_0 hcz15_1 hfz15_0 hfz15_1
      try clear hcz20_0 hcz20_1 hfz20_0 hfz20_1
      try clear hcz25_0 hcz25_1 hfz25_0 hfz25_1
      try clear hcz27_0 hcz27_1 hfz27_0 hfz27_1
      try clear hcz34_0 hcz34_1 hfz34_0 hfz34_1
      try clear hcz39_0 hcz39_1 hfz39_0 hfz39_1
      try clear hcz51_0 hcz51_1 hfz51_0 hfz51_1
      try clear hcz52_0 hcz52_1 hfz52_0 hfz52_1
      try clear hcz60_0 hcz60_1 hfz60_0 hfz60_1
      try clear hcz61_0 hcz61_1 hfz61_0 hfz61_1
      try clear hcz7_0 hcz7_1 hfz7_0 hfz7_1
      obtain ⟨x59_1, x257000_1, x257001_1, rfl, HA, HK1, BK255, BK256, BK260, BK262, BK266, BK270, HB⟩ := hrel
      cases gk with
      | zero => exact absurd HA.out (by simp [short_best.l0])
      | succ k1 =>
       have H := HA.out
       clear HA
       simp only [short_best.l0] at H
       by_cases c62 : x59_1 < 2
       ·rw [if_pos c62] at H
        have c62b0 := decide_eq_true c62
        clear c62
        try rw [c62b0]
        by_cases c63 : x59_1 = 0
        ·rw [if_pos c63] at H
         have c63b0 : (x59_1 == 0) = true := beq_iff_eq.mpr c63
         have hix_ : ∀ W : World, (Instr.index 85 (.agg #[.string t263, .int .i64 t264, .string t267, .int .i64 t268]) (.int .i64 x59_1)).run Tryd.prog W = .ok (.agg #[.string t263, .int .i64 t264]) W := by intro W; rw [c63]; kernel_rfl
         have c63b1 : (x59_1 != 0) = false := bne_eq_false_iff_eq.mpr c63
         clear c63
         replace H := bs H
         obtain ⟨t273, A64, H⟩ := H
         go_upto_if 64 with (first | ((with_reducible refine gate_dst (N := 16) rfl ?_); refine box_event rfl (N := 16) rfl (cs := #[.string (⟨#[]⟩ : ByteArray), .int .i64 0]) (t := 28) gz ?_; intro gb272 hg w65 hbox hb; have GE272 := gN bz hg; have NB255_272 := lN (g := gb255) (cs := #[.string a0_0, .int .i64 a0_1]) hg bk; have NB272_255 := rN (g := gb255) (cs := #[.string a0_0, .int .i64 a0_1]) hg bk; have NB256_272 := lN (g := gb256) (cs := #[.string x257000_1, .int .i64 x257001_1]) hg bk; have NB272_256 := rN (g := gb256) (cs := #[.string x257000_1, .int .i64 x257001_1]) hg bk; have NB260_272 := lN (g := gb260) (cs := #[.string t257, .int .i64 t258]) hg bk; have NB272_260 := rN (g := gb260) (cs := #[.string t257, .int .i64 t258]) hg bk; have NB262_272 := lN (g := gb262) (cs := #[.string (⟨#[49]⟩ : ByteArray), .int .i64 (wrap64 ((wrap64 (a0_1 - a1)) + 1))]) hg bk; have NB272_262 := rN (g := gb262) (cs := #[.string (⟨#[49]⟩ : ByteArray), .int .i64 (wrap64 ((wrap64 (a0_1 - a1)) + 1))]) hg bk; have NB266_272 := lN (g := gb266) (cs := #[.string t263, .int .i64 t264]) hg bk; have NB272_266 := rN (g := gb266) (cs := #[.string t263, .int .i64 t264]) hg bk; have NB270_272 := lN (g := gb270) (cs := #[.string t267, .int .i64 t268]) hg bk; have NB272_270 := rN (g := gb270) (cs := #[.string t267, .int .i64 t268]) hg bk; replace BK255 := kN (g := gb255) (cs := #[.string a0_0, .int .i64 a0_1]) hb bk; replace BK256 := kN (g := gb256) (cs := #[.string x257000_1, .int .i64 x257001_1]) hb bk; replace BK260 := kN (g := gb260) (cs := #[.string t257, .int .i64 t258]) hb bk; replace BK262 := kN (g := gb262) (cs := #[.string (⟨#[49]⟩ : ByteArray), .int .i64 (wrap64 ((wrap64 (a0_1 - a1)) + 1))]) hb bk; replace BK266 := kN (g := gb266) (cs := #[.string t263, .int .i64 t264]) hb bk; replace BK270 := kN (g := gb270) (cs := #[.string t267, .int .i64 t268]) hb bk; have BK272 := Aside0.mk hbox; replace HB := bN bz hb; clear hb hbox hg; have hnb66 := NB272_255.out; have hnc66 := NB255_272.out; have hnb67 := NB272_256.out; have hnc67 := NB256_272.out; have hnb68 := NB272_260.out; have hnc68 := NB260_272.out; have hnb69 := NB272_262.out; have hnc69 := NB262_272.out; have hnb70 := NB272_266.out; have hnc70 := NB266_272.out; have hnb71 := NB272_270.out; have hnc71 := NB270_272.out; obtain ⟨hcz72_0, hcz72_1, hfz72_0, hfz72_1⟩ := cz2 (W := w65) BK272) | (go_at_call 42; (with_reducible refine (short_span_in.calls k1 a2_0 a2_1 a2_2 a2_3 a2_4 t263 t264 t273 _ A64.out).mono ?_); rintro e w73 ⟨rfl, hb⟩; replace BK255 := kN (g := gb255) (cs := #[.string a0_0, .int .i64 a0_1]) hb bk; replace BK256 := kN (g := gb256) (cs := #[.string x257000_1, .int .i64 x257001_1]) hb bk; replace BK260 := kN (g := gb260) (cs := #[.string t257, .int .i64 t258]) hb bk; replace BK262 := kN (g := gb262) (cs := #[.string (⟨#[49]⟩ : ByteArray), .int .i64 (wrap64 ((wrap64 (a0_1 - a1)) + 1))]) hb bk; replace BK266 := kN (g := gb266) (cs := #[.string t263, .int .i64 t264]) hb bk; replace BK270 := kN (g := gb270) (cs := #[.string t267, .int .i64 t268]) hb bk; replace BK272 := kN (g := gb272) (cs := #[.string t263, .int .i64 t264]) hb bk; replace HB := bN bz hb; (try clear hb); (try clear hb2); (try clear hk); (try clear hi)))
         (try simp only [Act.put, List.setIfInBounds_toArray, List.set_cons_zero, List.set_cons_succ])
         by_cases c74 : t273 = true
         ·subst c74
          replace H := hT H
          simp only [Option.some.injEq, Prod.mk.injEq] at H
          obtain ⟨rfl, rfl, rfl⟩ := H
          have hnb75 := NB272_255.out
          have hnc75 := NB255_272.out
          have hnb76 := NB272_256.out
          have hnc76 := NB256_272.out
          have hnb77 := NB272_260.out
          have hnc77 := NB260_272.out
          have hnb78 := NB272_262.out
          have hnc78 := NB262_272.out
          have hnb79 := NB272_266.out
          have hnc79 := NB266_272.out
          have hnb80 := NB272_270.out
          have hnc80 := NB270_272.out
          obtain ⟨hcz81_0, hcz81_1, hfz81_0, hfz81_1⟩ := cz2 (W := w73) BK272
          have hnb82 := NB256_255.out
          have hnc82 := NB255_256.out
          have hnb83 := NB256_260.out
          have hnc83 := NB260_256.out
          have hnb84 := NB256_262.out
          have hnc84 := NB262_256.out
          have hnb85 := NB256_266.out
          have hnc85 := NB266_256.out
          have hnb86 := NB256_270.out
          have hnc86 := NB270_256.out
          obtain ⟨hcz87_0, hcz87_1, hfz87_0, hfz87_1⟩ := cz2 (W := w73) BK256
          go_wp2
          refine bodyPost_ret (results_ct rfl _ _ gb256 28 #[.string t263, .int .i64 t264] (0, 0) _ rfl bk Tryd.underlying28 rfl (by kernel_rfl)) rfl ?_
          exact ⟨ez, bz⟩
         ·replace c74 := Bool.eq_false_iff.mpr c74
          subst c74
          replace H := hF H
          have H' := Aside0.mk H
          clear H
          go_wp2
          go_roundg k1
          case measure => have := HK1.out; omega
          case rel => exact ⟨(wrap64 (x59_1 + 1)), (x257000_1), (x257001_1), rz, H', ⟨by have := HK1.out; omega⟩, ⟨bk⟩, ⟨bk⟩, ⟨bk⟩, ⟨bk⟩, ⟨bk⟩, ⟨bk⟩, ⟨bz⟩⟩
        ·rw [if_neg c63] at H
         obtain ⟨c63b0, c63b1⟩ := eF c63
         by_cases c88 : x59_1 = 1
         ·rw [if_pos c88] at H
          have c88b0 : (x59_1 == 1) = true := beq_iff_eq.mpr c88
          have hix_ : ∀ W : World, (Instr.index 85 (.agg #[.string t263, .int .i64 t264, .string t267, .int .i64 t268]) (.int .i64 x59_1)).run Tryd.prog W = .ok (.agg #[.string t267, .int .i64 t268]) W := by intro W; rw [c88]; kernel_rfl
          have c88b1 : (x59_1 != 1) = false := bne_eq_false_iff_eq.mpr c88
          clear c88
          replace H := bs H
          obtain ⟨t275, A89, H⟩ := H
          go_upto_if 64 with (first | ((with_reducible refine gate_dst (N := 16) rfl ?_); refine box_event rfl (N := 16) rfl (cs := #[.string (⟨#[]⟩ : ByteArray), .int .i64 0]) (t := 28) gz ?_; intro gb274 hg w90 hbox hb; have GE274 := gN bz hg; have NB255_274 := lN (g := gb255) (cs := #[.string a0_0, .int .i64 a0_1]) hg bk; have NB274_255 := rN (g := gb255) (cs := #[.string a0_0, .int .i64 a0_1]) hg bk; have NB256_274 := lN (g := gb256) (cs := #[.string x257000_1, .int .i64 x257001_1]) hg bk; have NB274_256 := rN (g := gb256) (cs := #[.string x257000_1, .int .i64 x257001_1]) hg bk; have NB260_274 := lN (g := gb260) (cs := #[.string t257, .int .i64 t258]) hg bk; have NB274_260 := rN (g := gb260) (cs := #[.string t257, .int .i64 t258]) hg bk; have NB262_274 := lN (g := gb262) (cs := #[.string (⟨#[49]⟩ : ByteArray), .int .i64 (wrap64 ((wrap64 (a0_1 - a1)) + 1))]) hg bk; have NB274_262 := rN (g := gb262) (cs := #[.string (⟨#[49]⟩ : ByteArray), .int .i64 (wrap64 ((wrap64 (a0_1 - a1)) + 1))]) hg bk; have NB266_274 := lN (g := gb266) (cs := #[.string t263, .int .i64 t264]) hg bk; have NB274_266 := rN (g := gb266) (cs := #[.string t263, .int .i64 t264]) hg bk; have NB270_274 := lN (g := gb270) (cs := #[.string t267, .int .i64 t268]) hg bk; have NB274_270 := rN (g := gb270) (cs := #[.string t267, .int .i64 t268]) hg bk; replace BK255 := kN (g := gb255) (cs := #[.string a0_0, .int .i64 a0_1]) hb bk; replace BK256 := kN (g := gb256) (cs := #[.string x257000_1, .int .i64 x257001_1]) hb bk; replace BK260 := kN (g := gb260) (cs := #[.string t257, .int .i64 t258]) hb bk; replace BK262 := kN (g := gb262) (cs := #[.string (⟨#[49]⟩ : ByteArray), .int .i64 (wrap64 ((wrap64 (a0_1 - a1)) + 1))]) hb bk; replace BK266 := kN (g := gb266) (cs := #[.string t263, .int .i64 t264]) hb bk; replace BK270 := kN (g := gb270) (cs := #[.string t267, .int .i64 t268]) hb bk; have BK274 := Aside0.mk hbox; replace HB := bN bz hb; clear hb hbox hg; have hnb91 := NB274_255.out; have hnc91 := NB255_274.out; have hnb92 := NB274_256.out; have hnc92 := NB256_274.out; have hnb93 := NB274_260.out; have hnc93 := NB260_274.out; have hnb94 := NB274_262.out; have hnc94 := NB262_274.out; have hnb95 := NB274_266.out; have hnc95 := NB266_274.out; have hnb96 := NB274_270.out; have hnc96 := NB270_274.out; obtain ⟨hcz97_0, hcz97_1, hfz97_0, hfz97_1⟩ := cz2 (W := w90) BK274) | (go_at_call 42; (with_reducible refine (short_span_in.calls k1 a2_0 a2_1 a2_2 a2_3 a2_4 t267 t268 t275 _ A89.out).mono ?_); rintro e w98 ⟨rfl, hb⟩; replace BK255 := kN (g := gb255) (cs := #[.string a0_0, .int .i64 a0_1]) hb bk; replace BK256 := kN (g := gb256) (cs := #[.string x257000_1, .int .i64 x257001_1]) hb bk; replace BK260 := kN (g := gb260) (cs := #[.string t257, .int .i64 t258]) hb bk; replace BK262 := kN (g := gb262) (cs := #[.string (⟨#[49]⟩ : ByteArray), .int .i64 (wrap64 ((wrap64 (a0_1 - a1)) + 1))]) hb bk; replace BK266 := kN (g := gb266) (cs := #[.string t263, .int .i64 t264]) hb bk; replace BK270 := kN (g := gb270) (cs := #[.string t267, .int .i64 t268]) hb bk; replace BK274 := kN (g := gb274) (cs := #[.string t267, .int .i64 t268]) hb bk; replace HB := bN bz hb; (try clear hb); (try clear hb2); (try clear hk); (try clear hi)))
          (try simp only [Act.put, List.setIfInBounds_toArray, List.set_cons_zero, List.set_cons_succ])
          by_cases c99 : t275 = true
          ·subst c99
           replace H := hT H
           simp only [Option.some.injEq, Prod.mk.injEq] at H
           obtain ⟨rfl, rfl, rfl⟩ := H
           have hnb100 := NB274_255.out
           have hnc100 := NB255_274.out
           have hnb101 := NB274_256.out
           have hnc101 := NB256_274.out
           have hnb102 := NB274_260.out
           have hnc102 := NB260_274.out
           have hnb103 := NB274_262.out
           have hnc103 := NB262_274.out
           have hnb104 := NB274_266.out
           have hnc104 := NB266_274.out
           have hnb105 := NB274_270.out
           have hnc105 := NB270_274.out
           obtain ⟨hcz106_0, hcz106_1, hfz106_0, hfz106_1⟩ := cz2 (W := w98) BK274
           have hnb107 := NB256_255.out
           have hnc107 := NB255_256.out
           have hnb108 := NB256_260.out
           have hnc108 := NB260_256.out
           have hnb109 := NB256_262.out
           have hnc109 := NB262_256.out
           have hnb110 := NB256_266.out
           have hnc110 := NB266_256.out
           have hnb111 := NB256_270.out
           have hnc111 := NB270_256.out
           obtain ⟨hcz112_0, hcz112_1, hfz112_0, hfz112_1⟩ := cz2 (W := w98) BK256
           go_wp2
           refine bodyPost_ret (results_ct rfl _ _ gb256 28 #[.string t267, .int .i64 t268] (0, 0) _ rfl bk Tryd.underlying28 rfl (by kernel_rfl)) rfl ?_
           exact ⟨ez, bz⟩
          ·replace c99 := Bool.eq_false_iff.mpr c99
           subst c99
           replace H := hF H
           have H' := Aside0.mk H
           clear H
           go_wp2
           go_roundg k1
           case measure => have := HK1.out; omega
           case rel => exact ⟨(wrap64 (x59_1 + 1)), (x257000_1), (x257001_1), rz, H', ⟨by have := HK1.out; omega⟩, ⟨bk⟩, ⟨bk⟩, ⟨bk⟩, ⟨bk⟩, ⟨bk⟩, ⟨bk⟩, ⟨bz⟩⟩
         ·rw [if_neg c88] at H
          exact absurd H (by simp)
       ·rw [if_neg c62] at H
        have c62b0 := decide_eq_false c62
        clear c62
        try rw [c62b0]
        simp only [Option.some.injEq, Prod.mk.injEq] at H
        obtain ⟨rfl, rfl, rfl⟩ := H
        have hnb113 := NB256_255.out
        have hnc113 := NB255_256.out
        have hnb114 := NB256_260.out
        have hnc114 := NB260_256.out
        have hnb115 := NB256_262.out
        have hnc115 := NB262_256.out
        have hnb116 := NB256_266.out
        have hnc116 := NB266_256.out
        have hnb117 := NB256_270.out
        have hnc117 := NB270_256.out
        obtain ⟨hcz118_0, hcz118_1, hfz118_0, hfz118_1⟩ := cz2 (W := wr) BK256
        go_wp2
        refine bodyPost_ret (results_ct rfl _ _ gb256 28 #[.string (⟨#[]⟩ : ByteArray), .int .i64 0] (0, 0) _ rfl bk Tryd.underlying28 rfl (by kernel_rfl)) rfl ?_
        exact ⟨ez, bz⟩
    ·rw [if_neg c29] at H
     exact absurd H (by simp)
   ·rw [if_neg c28] at H
    exact absurd H (by simp)
end Go.Proofs.YtmeapdchnnpceaaDoor.Fn
end
section
namespace Go.Proofs.YtmeapdchnnpceaaDoor.Fn
open Go.RowKit Go.Proofs.YtmeapdchnnpceaaDoorW.PrintWords Go.Proofs.YtmeapdchnnpceaaDoorW.PrintLast Go.Proofs.YtmeapdchnnpceaaDoorW.PrintMore
attribute [local go_sem] min2_int min_two
set_option linter.unusedVariables false
set_option linter.unusedSimpArgs false
def platenref04_Nearest.j0 : Nat → Int → Bool → ByteArray → Int → Option (ByteArray × Int)
 | 0, _, _, _, _ => none
 | k + 1, x1, x17, x490000, x490001 => if x17 = true then (some (x490000, x490001)) else (if (wrap64 (x490001 - x1)) < 0 then (some ((⟨#[]⟩ : ByteArray), 0)) else (if 0 ≤ (wrap64 (x490001 - x1)) then (if (wrap64 (x490001 - x1)) ≤ (x490000.size : Int) then ((platenref04_In.f k (x490000.extract 0 ((wrap64 (x490001 - x1)) : Int).toNat) x490001).bind fun bt492 => ((platenref04_Sum.f k bt492.1 bt492.2 (⟨#[49]⟩ : ByteArray) (wrap64 (x1 + 1))).bind fun bt495 => ((platenref04_Sum.f k x490000 x490001 x490000 x490001).bind fun bt498 => ((platenref04_Sum.f k bt492.1 bt492.2 bt495.1 bt495.2).bind fun bt500 => ((platenref04_Compare.f k bt498.1 bt498.2 bt500.1 bt500.2).bind fun t502 => (if t502 < 0 then (some (bt492.1, bt492.2)) else (if t502 = 0 then ((platenref04_digit.f bt492.1 bt492.2 x1).bind fun t503 => (if (Int.tmod t503 2) = 0 then (some (bt492.1, bt492.2)) else (some (bt495.1, bt495.2)))) else (some (bt495.1, bt495.2))))))))) else (none)) else (none)))
def platenref04_Nearest.f (k : Nat) (a0_0 : ByteArray) (a0_1 : Int) (a1 : Int) : Option (ByteArray × Int) := (platenref04_low.f a0_0 a0_1).bind fun t491 => (if a1 ≤ t491 then (platenref04_Nearest.j0 k a1 true a0_0 a0_1) else (platenref04_Nearest.j0 k a1 (a0_0.toList == ([] : List UInt8)) a0_0 a0_1))
def platenref04_Nearest.T6 : Bool × List (List Nat × List Nat) := (true, [([], []), ([0], [0]), ([], []), ([1, 2], [1, 2]), ([], []), ([4], [4]), ([3, 5], [3, 5]), ([6], [6]), ([], []), ([8, 7, 7, 0, 1, 2, 3, 4, 5, 6, 7, 8], [7, 8])])
def platenref04_Nearest.B6 : List Nat := [0, 1, 0, 7, 0, 16, 63, 127, 0, 511]
theorem platenref04_Nearest.tab6 : rtab .any (opsOf Tryd.f48 6) = platenref04_Nearest.T6 := by kernel_rfl
theorem platenref04_Nearest.bits6 : waitsOk platenref04_Nearest.T6.2 platenref04_Nearest.B6 = true := by kernel_rfl
def platenref04_Nearest.T8 : Bool × List (List Nat × List Nat) := (true, [([], []), ([], []), ([0, 1], [0, 1]), ([], []), ([], []), ([3, 4, 2], [3, 4]), ([2, 5, 5], [2, 5]), ([6, 6, 0, 1, 2, 3, 4, 5, 6], [6])])
def platenref04_Nearest.B8 : List Nat := [0, 0, 3, 0, 0, 31, 63, 127]
theorem platenref04_Nearest.tab8 : rtab .any (opsOf Tryd.f48 8) = platenref04_Nearest.T8 := by kernel_rfl
theorem platenref04_Nearest.bits8 : waitsOk platenref04_Nearest.T8.2 platenref04_Nearest.B8 = true := by kernel_rfl
set_option maxHeartbeats 8000000 in
set_option maxRecDepth 100000 in
theorem platenref04_Nearest.calls (k : Nat) (a0_0 : ByteArray) (a0_1 : Int) (a1 : Int) (r1 : ByteArray) (r2 : Int) (w : World) (h : platenref04_Nearest.f k a0_0 a0_1 a1 = some (r1, r2)) :
  Calls Tryd.prog 48 #[.agg #[.string a0_0, .int .i64 a0_1], .int .i64 a1] w fun e w' => e = .returned (.agg #[.string r1, .int .i64 r2]) ∧ Below w.heap.size w w' := by
 have hu28 := Tryd.underlying28
 have HB := Aside0.mk (Below.refl w.heap.size w)
 have H : ((platenref04_low.f a0_0 a0_1).bind fun t491 => (if a1 ≤ t491 then (platenref04_Nearest.j0 k a1 true a0_0 a0_1) else (platenref04_Nearest.j0 k a1 (a0_0.toList == ([] : List UInt8)) a0_0 a0_1))) = some (r1, r2) := h
 clear h
 have HC3 := Aside0.mk H
 clear H
 go_enter Tryd.func48, Tryd.ntmps48
 go_upto_region 1 with (first | ((with_reducible refine gate_dst (N := 2) rfl ?_); refine box_event rfl (N := 2) rfl (cs := #[.string a0_0, .int .i64 a0_1]) (t := 28) gz ?_; intro gb489 hg w4 hbox hb; have GE489 := gN bz hg; have BK489 := Aside0.mk hbox; replace HB := bN bz hb; clear hb hbox hg) | ((with_reducible refine gate_dst (N := 4) rfl ?_); refine box_event rfl (N := 4) rfl (cs := #[.string (⟨#[]⟩ : ByteArray), .int .i64 0]) (t := 28) gz ?_; intro gb490 hg w5 hbox hb; have GE490 := gN bz hg; have NB489_490 := lN (g := gb489) (cs := #[.string a0_0, .int .i64 a0_1]) hg bk; have NB490_489 := rN (g := gb489) (cs := #[.string a0_0, .int .i64 a0_1]) hg bk; replace BK489 := kN (g := gb489) (cs := #[.string a0_0, .int .i64 a0_1]) hb bk; have BK490 := Aside0.mk hbox; replace HB := bN bz hb; clear hb hbox hg))
 (try simp only [Act.put, List.setIfInBounds_toArray, List.set_cons_zero, List.set_cons_succ])
 go_cut [17] (fun v17 wc => ∃ (kq : Nat) (x17_2 : Bool), v17 = .bool x17_2 ∧ Aside0 (platenref04_Nearest.j0 kq a1 x17_2 a0_0 a0_1 = some (r1, r2)) ∧ Aside0 (kq ≤ k) ∧ Aside0 (wc.heap[gb489]? = some (.cells #[.string a0_0, .int .i64 a0_1] 28 (0, 0))) ∧ Aside0 (wc.heap[gb490]? = some (.cells #[.string (⟨#[]⟩ : ByteArray), .int .i64 0] 28 (0, 0))) ∧ Aside0 (Below w.heap.size w wc))
 case first =>
  have H := HC3.out
  clear HC3
  replace H := bs H
  obtain ⟨t491, A6, H⟩ := H
  by_cases c7 : a1 ≤ t491
  ·rw [if_pos c7] at H
   have c7b0 := decide_eq_true c7
   clear c7
   try rw [c7b0]
   have H' := Aside0.mk H
   clear H
   have hnb8 := NB489_490.out
   have hnc8 := NB490_489.out
   obtain ⟨hcz9_0, hcz9_1, hfz9_0, hfz9_1⟩ := cz2 (W := w5) BK489
   go_wp2_with (first | ((with_reducible refine gate_callee (f := 57) rfl ?_); refine goesL_ (some 11) rfl rfl Tryd.func57 (by kernel_rfl) rfl #[.agg #[.string a0_0, .int .i64 a0_1]] rfl lz ?_; (with_reducible refine (platenref04_low.calls a0_0 a0_1 t491 _ A6.out).mono ?_); rintro e w10 ⟨rfl, hb⟩; refine ⟨_, rfl, ?_⟩; replace BK489 := kN (g := gb489) (cs := #[.string a0_0, .int .i64 a0_1]) hb bk; replace BK490 := kN (g := gb490) (cs := #[.string (⟨#[]⟩ : ByteArray), .int .i64 0]) hb bk; replace HB := bN bz hb; (try clear hb); (try clear hb2); (try clear hk); (try clear hi)))
   go_meet
   case rel => exact ⟨_, (true), rz, H', ⟨by first | omega | exact Nat.le_refl _⟩, ⟨bk⟩, ⟨bk⟩, ⟨bz⟩⟩
  ·rw [if_neg c7] at H
   have c7b0 := decide_eq_false c7
   clear c7
   try rw [c7b0]
   have H' := Aside0.mk H
   clear H
   have hnb11 := NB489_490.out
   have hnc11 := NB490_489.out
   obtain ⟨hcz12_0, hcz12_1, hfz12_0, hfz12_1⟩ := cz2 (W := w5) BK489
   go_wp2_with (first | ((with_reducible refine gate_callee (f := 57) rfl ?_); refine goesL_ (some 11) rfl rfl Tryd.func57 (by kernel_rfl) rfl #[.agg #[.string a0_0, .int .i64 a0_1]] rfl lz ?_; (with_reducible refine (platenref04_low.calls a0_0 a0_1 t491 _ A6.out).mono ?_); rintro e w13 ⟨rfl, hb⟩; refine ⟨_, rfl, ?_⟩; replace BK489 := kN (g := gb489) (cs := #[.string a0_0, .int .i64 a0_1]) hb bk; replace BK490 := kN (g := gb490) (cs := #[.string (⟨#[]⟩ : ByteArray), .int .i64 0]) hb bk; replace HB := bN bz hb; (try clear hb); (try clear hb2); (try clear hk); (try clear hi); obtain ⟨hcz14_0, hcz14_1, hfz14_0, hfz14_1⟩ := cz2 (W := w13) BK489))
   go_meet
   case rel => exact ⟨_, ((a0_0.toList == ([] : List UInt8))), rz, H', ⟨by first | omega | exact Nat.le_refl _⟩, ⟨bk⟩, ⟨bk⟩, ⟨bz⟩⟩
 case rest =>
  clear HC3
  try clear c7
  try clear c7b0
  try clear hcz12_0 hcz12_1 hfz12_0 hfz12_1
  try clear hcz14_0 hcz14_1 hfz14_0 hfz14_1
  try clear hcz9_0 hcz9_1 hfz9_0 hfz9_1
  obtain ⟨kq, x17_2, rfl, HA, HJ2, BK489, BK490, HB⟩ := hcut
  cases kq with
  | zero => exact absurd HA.out (by simp [platenref04_Nearest.j0])
  | succ kj2 =>
   have H := HA.out
   clear HA
   simp only [platenref04_Nearest.j0] at H
   by_cases c15 : x17_2 = true
   ·subst c15
    replace H := hT H
    simp only [Option.some.injEq, Prod.mk.injEq] at H
    obtain ⟨rfl, rfl⟩ := H
    have hnb16 := NB489_490.out
    have hnc16 := NB490_489.out
    obtain ⟨hcz17_0, hcz17_1, hfz17_0, hfz17_1⟩ := cz2 (W := wc) BK489
    obtain ⟨hcz18_0, hcz18_1, hfz18_0, hfz18_1⟩ := cz2 (W := wc) BK490
    go_wp2
    refine bodyPost_ret (results_cell_row rfl _ _ gb490 28 #[.string a0_0, .int .i64 a0_1] (0, 0) _ rfl bk Tryd.underlying28 rfl (by kernel_rfl)) rfl ?_
    exact ⟨ez, bz⟩
   ·replace c15 := Bool.eq_false_iff.mpr c15
    subst c15
    replace H := hF H
    by_cases c19 : (wrap64 (a0_1 - a1)) < 0
    ·rw [if_pos c19] at H
     have c19b0 := decide_eq_true c19
     clear c19
     simp only [Option.some.injEq, Prod.mk.injEq] at H
     obtain ⟨rfl, rfl⟩ := H
     have hnb20 := NB489_490.out
     have hnc20 := NB490_489.out
     obtain ⟨hcz21_0, hcz21_1, hfz21_0, hfz21_1⟩ := cz2 (W := wc) BK489
     obtain ⟨hcz22_0, hcz22_1, hfz22_0, hfz22_1⟩ := cz2 (W := wc) BK490
     go_wp2
     refine bodyPost_ret (results_cell_row rfl _ _ gb490 28 #[.string (⟨#[]⟩ : ByteArray), .int .i64 0] (0, 0) _ rfl bk Tryd.underlying28 rfl (by kernel_rfl)) rfl ?_
     exact ⟨ez, bz⟩
    ·rw [if_neg c19] at H
     have c19b0 := decide_eq_false c19
     clear c19
     obtain ⟨ji23, hji23⟩ : ∃ j_ : Int, (wrap64 (a0_1 - a1)) = j_ := ⟨_, rfl⟩
     (first | rw [hji23] at H | simp only [hji23] at H)
     (try rw [hji23] at c19b0)
     have hji23w : (IntKind.i64.wrap (a0_1 - a1)) = ji23 := (i64_w _).trans hji23
     by_cases c24 : 0 ≤ (ji23)
     ·rw [if_pos c24] at H
      have c24b0 := eq_true c24
      have c24b1 : decide (0 ≤ (ji23)) = true := decide_eq_true c24
      clear c24
      by_cases c25 : (ji23) ≤ (a0_0.size : Int)
      ·rw [if_pos c25] at H
       have c25b0 := eq_true c25
       have c25b1 : decide ((ji23) ≤ (a0_0.size : Int)) = true := decide_eq_true c25
       clear c25
       replace H := bs H
       obtain ⟨⟨t492, t493⟩, A26, H⟩ := H
       dsimp only at H
       replace H := bs H
       obtain ⟨⟨t495, t496⟩, A27, H⟩ := H
       dsimp only at H
       replace H := bs H
       obtain ⟨⟨t498, t499⟩, A28, H⟩ := H
       dsimp only at H
       replace H := bs H
       obtain ⟨⟨t500, t501⟩, A29, H⟩ := H
       dsimp only at H
       replace H := bs H
       obtain ⟨t502, A30, H⟩ := H
       by_cases c31 : t502 < 0
       ·rw [if_pos c31] at H
        have c31b0 := decide_eq_true c31
        clear c31
        simp only [Option.some.injEq, Prod.mk.injEq] at H
        obtain ⟨rfl, rfl⟩ := H
        have hnb32 := NB489_490.out
        have hnc32 := NB490_489.out
        obtain ⟨hcz33_0, hcz33_1, hfz33_0, hfz33_1⟩ := cz2 (W := wc) BK489
        try go_wp2
        replace BK489 := Aside0.mk (blk_drew BK489.out)
        replace BK490 := Aside0.mk (blk_drew BK490.out)
        replace HB := Aside0.mk (below_drew1 HB.out)
        refine start_ (n := 10) (S := fun w' => w'.cell? ⟨gb489, 0, none⟩ = some (.string a0_0) ∧ w'.cell? ⟨gb489, 1, none⟩ = some (.int .i64 a0_1)) (ds := []) #[false, false, false, false, false, false, false, false, false, false] (by kernel_rfl) rfl rfl ⟨(blk_cell BK489.out 0).trans rfl, (blk_cell BK489.out 1).trans rfl⟩ (fun hHeld => ?_); refine with_tabW platenref04_Nearest.tab6 platenref04_Nearest.bits6 (fun HT_ HW_ => ?_)
        generalize wc.drew = w34 at BK489 BK490 HB hHeld ⊢
        refine pure_ (i := 0) (N := some 26) (v := ?_) (a' := ?_) #[true, false, false, false, false, false, false, false, false, false] rfl rfl (any_of HT_.out (by kernel_rfl)) (fun _ _ _ h => h) (Or.inl ⟨by rfl, ?_⟩) ?_ ?_
        rotate_left
        ·intro w'
         go_simp
         with_reducible rfl
        rotate_left
        ·simp only [Act.put, List.setIfInBounds_toArray, List.set_cons_zero, List.set_cons_succ, i64_w, i32_w]
         rfl
        refine pure_ (i := 2) (N := some 28) (v := ?_) (a' := ?_) #[true, false, true, false, false, false, false, false, false, false] rfl rfl (any_of HT_.out (by kernel_rfl)) (fun _ _ _ h => h) (Or.inl ⟨by rfl, ?_⟩) ?_ ?_
        rotate_left
        ·intro w'
         go_simp
         with_reducible rfl
        rotate_left
        ·simp only [Act.put, List.setIfInBounds_toArray, List.set_cons_zero, List.set_cons_succ, i64_w, i32_w]
         rfl
        refine pure_ (i := 4) (N := some 30) (v := ?_) (a' := ?_) #[true, false, true, false, true, false, false, false, false, false] rfl rfl (any_of HT_.out (by kernel_rfl)) (fun _ _ _ h => h) (Or.inl ⟨by rfl, ?_⟩) ?_ ?_
        rotate_left
        ·intro w'
         go_simp
         with_reducible rfl
        rotate_left
        ·simp only [Act.put, List.setIfInBounds_toArray, List.set_cons_zero, List.set_cons_succ, i64_w, i32_w]
         rfl
        refine take_ (i := 1) (N := some 27) (v := ?_) (a' := ?_) #[true, true, true, false, true, false, false, false, false, false] rfl rfl (take_ofW HT_.out HW_.out (by kernel_rfl)) (fun _ _ _ h => h) (Or.inl ⟨by rfl, ?_⟩) hHeld ?_ ?_
        rotate_left
        ·rintro w' ⟨s0, s1⟩
         go_simp
         with_reducible rfl
        rotate_left
        ·simp only [Act.put, List.setIfInBounds_toArray, List.set_cons_zero, List.set_cons_succ, i64_w, i32_w]
         rfl
        refine pure_ (i := 3) (N := some 29) (v := ?_) (a' := ?_) #[true, true, true, true, true, false, false, false, false, false] rfl rfl (any_of HT_.out (by kernel_rfl)) (fun _ _ _ h => h) (Or.inl ⟨by rfl, ?_⟩) ?_ ?_
        rotate_left
        ·intro w'
         go_simp
         with_reducible rfl
        rotate_left
        ·simp only [Act.put, List.setIfInBounds_toArray, List.set_cons_zero, List.set_cons_succ, i64_w, i32_w]
         rfl
        refine take_ (i := 5) (N := some 31) (v := ?_) (a' := ?_) #[true, true, true, true, true, true, false, false, false, false] rfl rfl (take_ofW HT_.out HW_.out (by kernel_rfl)) (fun _ _ _ h => h) (Or.inl ⟨by rfl, ?_⟩) hHeld ?_ ?_
        rotate_left
        ·rintro w' ⟨s0, s1⟩
         go_simp
         with_reducible rfl
        rotate_left
        ·simp only [Act.put, List.setIfInBounds_toArray, List.set_cons_zero, List.set_cons_succ, i64_w, i32_w]
         rfl
        refine pure_ (i := 6) (N := some 32) (v := ?_) (a' := ?_) #[true, true, true, true, true, true, true, false, false, false] rfl rfl (any_of HT_.out (by kernel_rfl)) (fun _ _ _ h => h) (Or.inl ⟨by rfl, ?_⟩) ?_ ?_
        rotate_left
        ·intro w'
         go_simp
         with_reducible rfl
        rotate_left
        ·simp only [Act.put, List.setIfInBounds_toArray, List.set_cons_zero, List.set_cons_succ, i64_w, i32_w]
         rfl
        refine join_ (σ := Nat) 1 #[true, true, true, true, true, true, true, true, true, false] (fun s_ => [(33, .agg #[.string t492, .int .i64 t493]), (6, .pointer (some ⟨s_, 0, none⟩))]) (fun s_ w' => (w'.cell? ⟨gb489, 0, none⟩ = some (.string a0_0) ∧ w'.cell? ⟨gb489, 1, none⟩ = some (.int .i64 a0_1)) ∧ (w'.heap[gb489]? = some (.cells #[.string a0_0, .int .i64 a0_1] 28 (0, 0))) ∧ (w'.heap[gb490]? = some (.cells #[.string (⟨#[]⟩ : ByteArray), .int .i64 0] 28 (0, 0))) ∧ (w'.heap[s_]? = some (.cells #[.string (⟨#[]⟩ : ByteArray), .int .i64 0] 28 (0, 0))) ∧ (w.heap.size ≤ s_) ∧ (w.heap.size ≤ s_) ∧ (gb489 ≠ s_) ∧ (s_ ≠ gb489) ∧ (gb490 ≠ s_) ∧ (s_ ≠ gb490) ∧ (Below w.heap.size w w')) ?_ ?_
        rotate_left
        ·intro hCont
         refine two_ (i := 7) (j := 8) (Ni := some 33) (Nj := some 6) #[true, true, true, true, true, true, true, true, false, false] #[true, true, true, true, true, true, true, false, true, false] rfl rfl rfl rfl (two_of HT_.out (by kernel_rfl)) (by decide) (by decide) (fun K hK => ?_) (fun K hK => ?_)
         ·skip
          refine goes_ Tryd.func46 (by kernel_rfl) rfl #[.agg #[.string (a0_0.extract 0 ((ji23) : Int).toNat), .int .i64 a0_1]] (by rfl) rfl rfl (by (try simp only [List.map_toArray, List.map_cons, List.map_nil]); first | done | (simp only [hji23]; rfl) | rfl | (simp only [List.length_drop, List.length_take]; rfl)) ?_
          with_reducible refine (platenref04_In.calls kj2 (a0_0.extract 0 ((ji23) : Int).toNat) a0_1 t492 t493 _ A26.out).mono ?_
          rintro e w35 ⟨rfl, hb⟩
          refine ⟨_, rfl, ?_⟩
          replace BK489 := Aside0.mk (blk_below (g := gb489) (o := .cells #[.string a0_0, .int .i64 a0_1] 28 (0, 0)) bk hb)
          replace BK490 := Aside0.mk (blk_below (g := gb490) (o := .cells #[.string (⟨#[]⟩ : ByteArray), .int .i64 0] 28 (0, 0)) bk hb)
          replace HB := Aside0.mk (below_step bz hb)
          (try clear hb)
          (try clear hb2)
          (try clear hk)
          (try clear hi)
          refine hK.out _ _ ⟨(blk_cell BK489.out 0).trans rfl, (blk_cell BK489.out 1).trans rfl⟩ (fun hHeld => ?_)
          clear hK K
          refine norm_ (a' := ?_) ?_ ?_
          rotate_left
          ·show Act.put _ (some 33) _ = _
           simp only [Act.put, List.setIfInBounds_toArray, List.set_cons_zero, List.set_cons_succ, i64_w, i32_w]
           rfl
          refine one_ (i := 8) (N := some 6) #[true, true, true, true, true, true, true, true, true, false] rfl rfl (one_of HT_.out (by kernel_rfl)) (by decide) (fun K hK => ?_)
          refine box_step ?hg (N := 6) ?hd (cs := #[.string (⟨#[]⟩ : ByteArray), .int .i64 0]) (t := 28) ?hr ?_; (case hd => rfl); (case hg => rfl); (case hr => first | (go_simp; done) | (go_simp; rfl))
          intro gb494 hg w36 hbox hb
          have BK494 := Aside0.mk (hbox)
          have GW494 := Aside0.mk ((by rw [hg]; exact (below_size bz) : w.heap.size ≤ gb494))
          have GE494 := Aside0.mk ((by rw [hg]; exact (below_size bz) : w.heap.size ≤ gb494))
          have NB489_494 := Aside0.mk ((by rw [hg]; exact Nat.ne_of_lt (blk_lt (g := gb489) (o := .cells #[.string a0_0, .int .i64 a0_1] 28 (0, 0)) bk) : gb489 ≠ gb494))
          have NB494_489 := Aside0.mk ((by rw [hg]; exact Nat.ne_of_gt (blk_lt (g := gb489) (o := .cells #[.string a0_0, .int .i64 a0_1] 28 (0, 0)) bk) : gb494 ≠ gb489))
          have NB490_494 := Aside0.mk ((by rw [hg]; exact Nat.ne_of_lt (blk_lt (g := gb490) (o := .cells #[.string (⟨#[]⟩ : ByteArray), .int .i64 0] 28 (0, 0)) bk) : gb490 ≠ gb494))
          have NB494_490 := Aside0.mk ((by rw [hg]; exact Nat.ne_of_gt (blk_lt (g := gb490) (o := .cells #[.string (⟨#[]⟩ : ByteArray), .int .i64 0] 28 (0, 0)) bk) : gb494 ≠ gb490))
          replace BK489 := Aside0.mk (blk_below (g := gb489) (o := .cells #[.string a0_0, .int .i64 a0_1] 28 (0, 0)) bk hb)
          replace BK490 := Aside0.mk (blk_below (g := gb490) (o := .cells #[.string (⟨#[]⟩ : ByteArray), .int .i64 0] 28 (0, 0)) bk hb)
          replace HB := Aside0.mk (below_step bz hb)
          clear hb hbox hg
          refine hK.out _ _ ⟨(blk_cell BK489.out 0).trans rfl, (blk_cell BK489.out 1).trans rfl⟩ (fun hHeld => ?_)
          clear hK K
          refine norm_ (a' := ?_) ?_ ?_
          rotate_left
          ·show Act.put _ (some 6) _ = _
           simp only [Act.put, List.setIfInBounds_toArray, List.set_cons_zero, List.set_cons_succ, i64_w, i32_w]
           rfl
          exact norm_ (by simp only [putAll, Act.put, List.setIfInBounds_toArray, List.set_cons_zero, List.set_cons_succ]) (hCont (gb494) _ ⟨hHeld, bk, bk, bk, GW494.out, GE494.out, NB489_494.out, NB494_489.out, NB490_494.out, NB494_490.out, bz⟩)
         ·skip
          refine box_step ?hg (N := 6) ?hd (cs := #[.string (⟨#[]⟩ : ByteArray), .int .i64 0]) (t := 28) ?hr ?_; (case hd => rfl); (case hg => rfl); (case hr => first | (go_simp; done) | (go_simp; rfl))
          intro gb494 hg w35 hbox hb
          have BK494 := Aside0.mk (hbox)
          have GW494 := Aside0.mk ((by rw [hg]; exact (below_size bz) : w.heap.size ≤ gb494))
          have GE494 := Aside0.mk ((by rw [hg]; exact (below_size bz) : w.heap.size ≤ gb494))
          have NB489_494 := Aside0.mk ((by rw [hg]; exact Nat.ne_of_lt (blk_lt (g := gb489) (o := .cells #[.string a0_0, .int .i64 a0_1] 28 (0, 0)) bk) : gb489 ≠ gb494))
          have NB494_489 := Aside0.mk ((by rw [hg]; exact Nat.ne_of_gt (blk_lt (g := gb489) (o := .cells #[.string a0_0, .int .i64 a0_1] 28 (0, 0)) bk) : gb494 ≠ gb489))
          have NB490_494 := Aside0.mk ((by rw [hg]; exact Nat.ne_of_lt (blk_lt (g := gb490) (o := .cells #[.string (⟨#[]⟩ : ByteArray), .int .i64 0] 28 (0, 0)) bk) : gb490 ≠ gb494))
          have NB494_490 := Aside0.mk ((by rw [hg]; exact Nat.ne_of_gt (blk_lt (g := gb490) (o := .cells #[.string (⟨#[]⟩ : ByteArray), .int .i64 0] 28 (0, 0)) bk) : gb494 ≠ gb490))
          replace BK489 := Aside0.mk (blk_below (g := gb489) (o := .cells #[.string a0_0, .int .i64 a0_1] 28 (0, 0)) bk hb)
          replace BK490 := Aside0.mk (blk_below (g := gb490) (o := .cells #[.string (⟨#[]⟩ : ByteArray), .int .i64 0] 28 (0, 0)) bk hb)
          replace HB := Aside0.mk (below_step bz hb)
          clear hb hbox hg
          refine hK.out _ _ ⟨(blk_cell BK489.out 0).trans rfl, (blk_cell BK489.out 1).trans rfl⟩ (fun hHeld => ?_)
          clear hK K
          refine norm_ (a' := ?_) ?_ ?_
          rotate_left
          ·show Act.put _ (some 6) _ = _
           simp only [Act.put, List.setIfInBounds_toArray, List.set_cons_zero, List.set_cons_succ, i64_w, i32_w]
           rfl
          refine one_ (i := 7) (N := some 33) #[true, true, true, true, true, true, true, true, true, false] rfl rfl (one_of HT_.out (by kernel_rfl)) (by decide) (fun K hK => ?_)
          refine goes_ Tryd.func46 (by kernel_rfl) rfl #[.agg #[.string (a0_0.extract 0 ((ji23) : Int).toNat), .int .i64 a0_1]] (by rfl) rfl rfl (by (try simp only [List.map_toArray, List.map_cons, List.map_nil]); first | done | (simp only [hji23]; rfl) | rfl | (simp only [List.length_drop, List.length_take]; rfl)) ?_
          with_reducible refine (platenref04_In.calls kj2 (a0_0.extract 0 ((ji23) : Int).toNat) a0_1 t492 t493 _ A26.out).mono ?_
          rintro e w36 ⟨rfl, hb⟩
          refine ⟨_, rfl, ?_⟩
          replace BK489 := Aside0.mk (blk_below (g := gb489) (o := .cells #[.string a0_0, .int .i64 a0_1] 28 (0, 0)) bk hb)
          replace BK490 := Aside0.mk (blk_below (g := gb490) (o := .cells #[.string (⟨#[]⟩ : ByteArray), .int .i64 0] 28 (0, 0)) bk hb)
          replace BK494 := Aside0.mk (blk_below (g := gb494) (o := .cells #[.string (⟨#[]⟩ : ByteArray), .int .i64 0] 28 (0, 0)) bk hb)
          replace HB := Aside0.mk (below_step bz hb)
          (try clear hb)
          (try clear hb2)
          (try clear hk)
          (try clear hi)
          refine hK.out _ _ ⟨(blk_cell BK489.out 0).trans rfl, (blk_cell BK489.out 1).trans rfl⟩ (fun hHeld => ?_)
          clear hK K
          refine norm_ (a' := ?_) ?_ ?_
          rotate_left
          ·show Act.put _ (some 33) _ = _
           simp only [Act.put, List.setIfInBounds_toArray, List.set_cons_zero, List.set_cons_succ, i64_w, i32_w]
           rfl
          exact norm_ (by simp only [putAll, Act.put, List.setIfInBounds_toArray, List.set_cons_zero, List.set_cons_succ]) (hCont (gb494) _ ⟨hHeld, bk, bk, bk, GW494.out, GE494.out, NB489_494.out, NB494_489.out, NB490_494.out, NB494_490.out, bz⟩)
        rintro gb494 w37 ⟨hS_, h0_, h1_, h2_, h3_, h4_, h5_, h6_, h7_, h8_, h9_⟩
        have n0_ : Aside0 (w37.heap[gb489]? = some (.cells #[.string a0_0, .int .i64 a0_1] 28 (0, 0))) := ⟨h0_⟩
        have n1_ : Aside0 (w37.heap[gb490]? = some (.cells #[.string (⟨#[]⟩ : ByteArray), .int .i64 0] 28 (0, 0))) := ⟨h1_⟩
        have n2_ : Aside0 (w37.heap[gb494]? = some (.cells #[.string (⟨#[]⟩ : ByteArray), .int .i64 0] 28 (0, 0))) := ⟨h2_⟩
        have n3_ : Aside0 (w.heap.size ≤ gb494) := ⟨h3_⟩
        have n4_ : Aside0 (w.heap.size ≤ gb494) := ⟨h4_⟩
        have n5_ : Aside0 (gb489 ≠ gb494) := ⟨h5_⟩
        have n6_ : Aside0 (gb494 ≠ gb489) := ⟨h6_⟩
        have n7_ : Aside0 (gb490 ≠ gb494) := ⟨h7_⟩
        have n8_ : Aside0 (gb494 ≠ gb490) := ⟨h8_⟩
        have n9_ : Aside0 (Below w.heap.size w w37) := ⟨h9_⟩
        clear BK489
        clear BK490
        clear HB
        clear h0_ h1_ h2_ h3_ h4_ h5_ h6_ h7_ h8_ h9_
        have BK489 := n0_
        have BK490 := n1_
        have BK494 := n2_
        have GW494 := n3_
        have GE494 := n4_
        have NB489_494 := n5_
        have NB494_489 := n6_
        have NB490_494 := n7_
        have NB494_490 := n8_
        have HB := n9_
        clear n0_ n1_ n2_ n3_ n4_ n5_ n6_ n7_ n8_ n9_
        have hHeld : w37.cell? ⟨gb489, 0, none⟩ = some (.string a0_0) ∧ w37.cell? ⟨gb489, 1, none⟩ = some (.int .i64 a0_1) := hS_
        refine norm_ (a' := ?_) ?_ ?_
        rotate_left
        ·simp only [putAll, Act.put, List.setIfInBounds_toArray, List.set_cons_zero, List.set_cons_succ]
         rfl
        refine one_ (i := 9) (N := none) #[true, true, true, true, true, true, true, true, true, true] rfl rfl (one_of HT_.out (by kernel_rfl)) (by decide) (fun K hK => ?_)
        have hs38 : w37.cell? ⟨gb494, 0, none⟩ = some (.string (⟨#[]⟩ : ByteArray)) := (blk_cell BK494.out 0).trans rfl
        have hfs38 := blk_frozen BK494.out 0
        have hns38_0 := NB489_494.out
        have hns38_1 := NB490_494.out
        have hms38_0 := NB494_489.out
        have hms38_1 := NB494_490.out
        have hs39 : w37.cell? ⟨gb494, 1, none⟩ = some (.int .i64 0) := (blk_cell BK494.out 1).trans rfl
        have hfs39 := blk_frozen BK494.out 1
        have hns39_0 := NB489_494.out
        have hns39_1 := NB490_494.out
        have hms39_0 := NB494_489.out
        have hms39_1 := NB494_490.out
        refine skip_ (w1 := ?_) (by rfl) rfl ?_ ?_
        rotate_left
        ·go_simp
         rfl
        refine hK.out _ _ ⟨((cell_far (p := ⟨gb494, _, none⟩) NB489_494.out _).trans (((cell_far (p := ⟨gb494, _, none⟩) NB489_494.out _).trans (hHeld.1)))), ((cell_far (p := ⟨gb494, _, none⟩) NB489_494.out _).trans (((cell_far (p := ⟨gb494, _, none⟩) NB489_494.out _).trans (hHeld.2))))⟩ (fun hHeld => ?_)
        clear hK K
        refine done_ (done_of HT_.out (by kernel_rfl)) ?_
        have hnb40 := NB494_489.out
        have hnc40 := NB489_494.out
        have hnb41 := NB494_490.out
        have hnc41 := NB490_494.out
        obtain ⟨hcz42_0, hcz42_1, hfz42_0, hfz42_1⟩ := cz2 (W := w37) BK494
        try go_wp2_with (first | ((with_reducible refine gate_callee (f := 47) rfl ?_); refine goesL_ (some 38) rfl rfl Tryd.func47 (by kernel_rfl) rfl #[.agg #[.string t492, .int .i64 t493], .agg #[.string (⟨#[49]⟩ : ByteArray), .int .i64 (wrap64 (a1 + 1))]] rfl lz ?_; (with_reducible refine (platenref04_Sum.calls kj2 t492 t493 (⟨#[49]⟩ : ByteArray) (wrap64 (a1 + 1)) t495 t496 _ A27.out).mono ?_); rintro e w43 ⟨rfl, hb⟩; refine ⟨_, rfl, ?_⟩; replace BK489 := kN (g := gb489) (cs := #[.string a0_0, .int .i64 a0_1]) hb bk; replace BK490 := kN (g := gb490) (cs := #[.string (⟨#[]⟩ : ByteArray), .int .i64 0]) hb bk; replace BK494 := kN (g := gb494) (cs := #[.string t492, .int .i64 t493]) hb bk; replace HB := bN bz hb; (try clear hb); (try clear hb2); (try clear hk); (try clear hi)) | ((with_reducible refine gate_dst (N := 7) rfl ?_); refine box_event rfl (N := 7) rfl (cs := #[.string (⟨#[]⟩ : ByteArray), .int .i64 0]) (t := 28) gz ?_; intro gb497 hg w44 hbox hb; have GW497 := gN bz hg; have GE497 := gN bz hg; have NB489_497 := lN (g := gb489) (cs := #[.string a0_0, .int .i64 a0_1]) hg bk; have NB497_489 := rN (g := gb489) (cs := #[.string a0_0, .int .i64 a0_1]) hg bk; have NB490_497 := lN (g := gb490) (cs := #[.string (⟨#[]⟩ : ByteArray), .int .i64 0]) hg bk; have NB497_490 := rN (g := gb490) (cs := #[.string (⟨#[]⟩ : ByteArray), .int .i64 0]) hg bk; have NB494_497 := lN (g := gb494) (cs := #[.string t492, .int .i64 t493]) hg bk; have NB497_494 := rN (g := gb494) (cs := #[.string t492, .int .i64 t493]) hg bk; replace BK489 := kN (g := gb489) (cs := #[.string a0_0, .int .i64 a0_1]) hb bk; replace BK490 := kN (g := gb490) (cs := #[.string (⟨#[]⟩ : ByteArray), .int .i64 0]) hb bk; replace BK494 := kN (g := gb494) (cs := #[.string t492, .int .i64 t493]) hb bk; have BK497 := Aside0.mk hbox; replace HB := bN bz hb; clear hb hbox hg; have hnb45 := NB497_489.out; have hnc45 := NB489_497.out; have hnb46 := NB497_490.out; have hnc46 := NB490_497.out; have hnb47 := NB497_494.out; have hnc47 := NB494_497.out; obtain ⟨hcz48_0, hcz48_1, hfz48_0, hfz48_1⟩ := cz2 (W := w44) BK497))
        have n0_ : Aside0 (((w44.setCell ⟨gb497, 0, none⟩ (.string t495)).setCell ⟨gb497, 1, none⟩ (.int .i64 t496)).heap[gb489]? = some (.cells #[.string a0_0, .int .i64 a0_1] 28 (0, 0))) := ⟨bk⟩
        have n1_ : Aside0 (((w44.setCell ⟨gb497, 0, none⟩ (.string t495)).setCell ⟨gb497, 1, none⟩ (.int .i64 t496)).heap[gb490]? = some (.cells #[.string (⟨#[]⟩ : ByteArray), .int .i64 0] 28 (0, 0))) := ⟨bk⟩
        have n2_ : Aside0 (((w44.setCell ⟨gb497, 0, none⟩ (.string t495)).setCell ⟨gb497, 1, none⟩ (.int .i64 t496)).heap[gb494]? = some (.cells #[.string t492, .int .i64 t493] 28 (0, 0))) := ⟨bk⟩
        have n3_ : Aside0 (((w44.setCell ⟨gb497, 0, none⟩ (.string t495)).setCell ⟨gb497, 1, none⟩ (.int .i64 t496)).heap[gb497]? = some (.cells #[.string t495, .int .i64 t496] 28 (0, 0))) := ⟨bk⟩
        have n4_ : Aside0 (Below w.heap.size w ((w44.setCell ⟨gb497, 0, none⟩ (.string t495)).setCell ⟨gb497, 1, none⟩ (.int .i64 t496))) := ⟨bz⟩
        (try clear BK489)
        (try clear BK490)
        (try clear BK494)
        (try clear BK497)
        (try clear HB)
        generalize ((w44.setCell ⟨gb497, 0, none⟩ (.string t495)).setCell ⟨gb497, 1, none⟩ (.int .i64 t496)) = w49 at n0_ n1_ n2_ n3_ n4_ ⊢
        have BK489 := n0_
        have BK490 := n1_
        have BK494 := n2_
        have BK497 := n3_
        have HB := n4_
        clear n0_ n1_ n2_ n3_ n4_
        replace BK489 := Aside0.mk (blk_drew BK489.out)
        replace BK490 := Aside0.mk (blk_drew BK490.out)
        replace BK494 := Aside0.mk (blk_drew BK494.out)
        replace BK497 := Aside0.mk (blk_drew BK497.out)
        replace HB := Aside0.mk (below_drew1 HB.out)
        refine start_ (n := 8) (S := fun w' => w'.cell? ⟨gb489, 0, none⟩ = some (.string a0_0) ∧ w'.cell? ⟨gb489, 1, none⟩ = some (.int .i64 a0_1) ∧ w'.cell? ⟨gb494, 0, none⟩ = some (.string t492) ∧ w'.cell? ⟨gb494, 1, none⟩ = some (.int .i64 t493) ∧ w'.cell? ⟨gb497, 0, none⟩ = some (.string t495) ∧ w'.cell? ⟨gb497, 1, none⟩ = some (.int .i64 t496)) (ds := []) #[false, false, false, false, false, false, false, false] (by kernel_rfl) rfl rfl ⟨(blk_cell BK489.out 0).trans rfl, (blk_cell BK489.out 1).trans rfl, (blk_cell BK494.out 0).trans rfl, (blk_cell BK494.out 1).trans rfl, (blk_cell BK497.out 0).trans rfl, (blk_cell BK497.out 1).trans rfl⟩ (fun hHeld => ?_); refine with_tabW platenref04_Nearest.tab8 platenref04_Nearest.bits8 (fun HT_ HW_ => ?_)
        generalize w49.drew = w50 at BK489 BK490 BK494 BK497 HB hHeld ⊢
        refine take_ (i := 0) (N := some 39) (v := ?_) (a' := ?_) #[true, false, false, false, false, false, false, false] rfl rfl (take_ofW HT_.out HW_.out (by kernel_rfl)) (fun _ _ _ h => h) (Or.inl ⟨by rfl, ?_⟩) hHeld ?_ ?_
        rotate_left
        ·rintro w' ⟨s0, s1, s2, s3, s4, s5⟩
         go_simp
         with_reducible rfl
        rotate_left
        ·simp only [Act.put, List.setIfInBounds_toArray, List.set_cons_zero, List.set_cons_succ, i64_w, i32_w]
         rfl
        refine take_ (i := 1) (N := some 40) (v := ?_) (a' := ?_) #[true, true, false, false, false, false, false, false] rfl rfl (take_ofW HT_.out HW_.out (by kernel_rfl)) (fun _ _ _ h => h) (Or.inl ⟨by rfl, ?_⟩) hHeld ?_ ?_
        rotate_left
        ·rintro w' ⟨s0, s1, s2, s3, s4, s5⟩
         go_simp
         with_reducible rfl
        rotate_left
        ·simp only [Act.put, List.setIfInBounds_toArray, List.set_cons_zero, List.set_cons_succ, i64_w, i32_w]
         rfl
        refine take_ (i := 3) (N := some 42) (v := ?_) (a' := ?_) #[true, true, false, true, false, false, false, false] rfl rfl (take_ofW HT_.out HW_.out (by kernel_rfl)) (fun _ _ _ h => h) (Or.inl ⟨by rfl, ?_⟩) hHeld ?_ ?_
        rotate_left
        ·rintro w' ⟨s0, s1, s2, s3, s4, s5⟩
         go_simp
         with_reducible rfl
        rotate_left
        ·simp only [Act.put, List.setIfInBounds_toArray, List.set_cons_zero, List.set_cons_succ, i64_w, i32_w]
         rfl
        refine take_ (i := 4) (N := some 43) (v := ?_) (a' := ?_) #[true, true, false, true, true, false, false, false] rfl rfl (take_ofW HT_.out HW_.out (by kernel_rfl)) (fun _ _ _ h => h) (Or.inl ⟨by rfl, ?_⟩) hHeld ?_ ?_
        rotate_left
        ·rintro w' ⟨s0, s1, s2, s3, s4, s5⟩
         go_simp
         with_reducible rfl
        rotate_left
        ·simp only [Act.put, List.setIfInBounds_toArray, List.set_cons_zero, List.set_cons_succ, i64_w, i32_w]
         rfl
        refine one_ (i := 2) (N := some 41) #[true, true, true, true, true, false, false, false] rfl rfl (one_of HT_.out (by kernel_rfl)) (by decide) (fun K hK => ?_)
        refine goes_ Tryd.func47 (by kernel_rfl) rfl #[.agg #[.string a0_0, .int .i64 a0_1], .agg #[.string a0_0, .int .i64 a0_1]] (by rfl) rfl rfl lz ?_
        with_reducible refine (platenref04_Sum.calls kj2 a0_0 a0_1 a0_0 a0_1 t498 t499 _ A28.out).mono ?_
        rintro e w51 ⟨rfl, hb⟩
        refine ⟨_, rfl, ?_⟩
        replace BK489 := Aside0.mk (blk_below (g := gb489) (o := .cells #[.string a0_0, .int .i64 a0_1] 28 (0, 0)) bk hb)
        replace BK490 := Aside0.mk (blk_below (g := gb490) (o := .cells #[.string (⟨#[]⟩ : ByteArray), .int .i64 0] 28 (0, 0)) bk hb)
        replace BK494 := Aside0.mk (blk_below (g := gb494) (o := .cells #[.string t492, .int .i64 t493] 28 (0, 0)) bk hb)
        replace BK497 := Aside0.mk (blk_below (g := gb497) (o := .cells #[.string t495, .int .i64 t496] 28 (0, 0)) bk hb)
        replace HB := Aside0.mk (below_step bz hb)
        (try clear hb)
        (try clear hb2)
        (try clear hk)
        (try clear hi)
        refine hK.out _ _ ⟨(blk_cell BK489.out 0).trans rfl, (blk_cell BK489.out 1).trans rfl, (blk_cell BK494.out 0).trans rfl, (blk_cell BK494.out 1).trans rfl, (blk_cell BK497.out 0).trans rfl, (blk_cell BK497.out 1).trans rfl⟩ (fun hHeld => ?_)
        clear hK K
        refine norm_ (a' := ?_) ?_ ?_
        rotate_left
        ·show Act.put _ (some 41) _ = _
         simp only [Act.put, List.setIfInBounds_toArray, List.set_cons_zero, List.set_cons_succ, i64_w, i32_w]
         rfl
        refine one_ (i := 5) (N := some 44) #[true, true, true, true, true, true, false, false] rfl rfl (one_of HT_.out (by kernel_rfl)) (by decide) (fun K hK => ?_)
        refine goes_ Tryd.func47 (by kernel_rfl) rfl #[.agg #[.string t492, .int .i64 t493], .agg #[.string t495, .int .i64 t496]] (by rfl) rfl rfl lz ?_
        with_reducible refine (platenref04_Sum.calls kj2 t492 t493 t495 t496 t500 t501 _ A29.out).mono ?_
        rintro e w52 ⟨rfl, hb⟩
        refine ⟨_, rfl, ?_⟩
        replace BK489 := Aside0.mk (blk_below (g := gb489) (o := .cells #[.string a0_0, .int .i64 a0_1] 28 (0, 0)) bk hb)
        replace BK490 := Aside0.mk (blk_below (g := gb490) (o := .cells #[.string (⟨#[]⟩ : ByteArray), .int .i64 0] 28 (0, 0)) bk hb)
        replace BK494 := Aside0.mk (blk_below (g := gb494) (o := .cells #[.string t492, .int .i64 t493] 28 (0, 0)) bk hb)
        replace BK497 := Aside0.mk (blk_below (g := gb497) (o := .cells #[.string t495, .int .i64 t496] 28 (0, 0)) bk hb)
        replace HB := Aside0.mk (below_step bz hb)
        (try clear hb)
        (try clear hb2)
        (try clear hk)
        (try clear hi)
        refine hK.out _ _ ⟨(blk_cell BK489.out 0).trans rfl, (blk_cell BK489.out 1).trans rfl, (blk_cell BK494.out 0).trans rfl, (blk_cell BK494.out 1).trans rfl, (blk_cell BK497.out 0).trans rfl, (blk_cell BK497.out 1).trans rfl⟩ (fun hHeld => ?_)
        clear hK K
        refine norm_ (a' := ?_) ?_ ?_
        rotate_left
        ·show Act.put _ (some 44) _ = _
         simp only [Act.put, List.setIfInBounds_toArray, List.set_cons_zero, List.set_cons_succ, i64_w, i32_w]
         rfl
        refine one_ (i := 6) (N := some 45) #[true, true, true, true, true, true, true, false] rfl rfl (one_of HT_.out (by kernel_rfl)) (by decide) (fun K hK => ?_)
        refine goes_ Tryd.func60 (by kernel_rfl) rfl #[.agg #[.string t498, .int .i64 t499], .agg #[.string t500, .int .i64 t501]] (by rfl) rfl rfl lz ?_
        with_reducible refine (platenref04_Compare.calls kj2 t498 t499 t500 t501 t502 _ A30.out).mono ?_
        rintro e w53 ⟨rfl, hb⟩
        refine ⟨_, rfl, ?_⟩
        replace BK489 := Aside0.mk (blk_below (g := gb489) (o := .cells #[.string a0_0, .int .i64 a0_1] 28 (0, 0)) bk hb)
        replace BK490 := Aside0.mk (blk_below (g := gb490) (o := .cells #[.string (⟨#[]⟩ : ByteArray), .int .i64 0] 28 (0, 0)) bk hb)
        replace BK494 := Aside0.mk (blk_below (g := gb494) (o := .cells #[.string t492, .int .i64 t493] 28 (0, 0)) bk hb)
        replace BK497 := Aside0.mk (blk_below (g := gb497) (o := .cells #[.string t495, .int .i64 t496] 28 (0, 0)) bk hb)
        replace HB := Aside0.mk (below_step bz hb)
        (try clear hb)
        (try clear hb2)
        (try clear hk)
        (try clear hi)
        refine hK.out _ _ ⟨(blk_cell BK489.out 0).trans rfl, (blk_cell BK489.out 1).trans rfl, (blk_cell BK494.out 0).trans rfl, (blk_cell BK494.out 1).trans rfl, (blk_cell BK497.out 0).trans rfl, (blk_cell BK497.out 1).trans rfl⟩ (fun hHeld => ?_)
        clear hK K
        refine norm_ (a' := ?_) ?_ ?_
        rotate_left
        ·show Act.put _ (some 45) _ = _
         simp only [Act.put, List.setIfInBounds_toArray, List.set_cons_zero, List.set_cons_succ, i64_w, i32_w]
         rfl
        refine pure_ (i := 7) (N := some 8) (v := ?_) (a' := ?_) #[true, true, true, true, true, true, true, true] rfl rfl (any_of HT_.out (by kernel_rfl)) (fun _ _ _ h => h) (Or.inl ⟨by rfl, ?_⟩) ?_ ?_
        rotate_left
        ·intro w'
         go_simp
         with_reducible rfl
        rotate_left
        ·simp only [Act.put, List.setIfInBounds_toArray, List.set_cons_zero, List.set_cons_succ, i64_w, i32_w]
         rfl
        refine done_ (done_of HT_.out (by kernel_rfl)) ?_
        obtain ⟨hcz54_0, hcz54_1, hfz54_0, hfz54_1⟩ := cz2 (W := w53) BK494
        obtain ⟨hcz55_0, hcz55_1, hfz55_0, hfz55_1⟩ := cz2 (W := w53) BK490
        try go_wp2
        refine bodyPost_ret (results_cell_row rfl _ _ gb490 28 #[.string t492, .int .i64 t493] (0, 0) _ rfl bk Tryd.underlying28 rfl (by kernel_rfl)) rfl ?_
        exact ⟨by first | rfl | (simp [errW_none, errW_some] <;> rfl) | (simp only [← hji23]; first | rfl | (simp [errW_none, errW_some] <;> rfl)) | (simp [*, errW_none, errW_some] <;> rfl), bz⟩
       ·rw [if_neg c31] at H
        have c31b0 := decide_eq_false c31
        clear c31
        by_cases c56 : t502 = 0
        ·rw [if_pos c56] at H
         obtain ⟨c56b0, c56b1⟩ := eT c56
         clear c56
         replace H := bs H
         obtain ⟨t503, A57, H⟩ := H
         have hnb58 := NB489_490.out
         have hnc58 := NB490_489.out
         obtain ⟨hcz59_0, hcz59_1, hfz59_0, hfz59_1⟩ := cz2 (W := wc) BK489
         try go_wp2
         replace BK489 := Aside0.mk (blk_drew BK489.out)
         replace BK490 := Aside0.mk (blk_drew BK490.out)
         replace HB := Aside0.mk (below_drew1 HB.out)
         refine start_ (n := 10) (S := fun w' => w'.cell? ⟨gb489, 0, none⟩ = some (.string a0_0) ∧ w'.cell? ⟨gb489, 1, none⟩ = some (.int .i64 a0_1)) (ds := []) #[false, false, false, false, false, false, false, false, false, false] (by kernel_rfl) rfl rfl ⟨(blk_cell BK489.out 0).trans rfl, (blk_cell BK489.out 1).trans rfl⟩ (fun hHeld => ?_); refine with_tabW platenref04_Nearest.tab6 platenref04_Nearest.bits6 (fun HT_ HW_ => ?_)
         generalize wc.drew = w60 at BK489 BK490 HB hHeld ⊢
         refine pure_ (i := 0) (N := some 26) (v := ?_) (a' := ?_) #[true, false, false, false, false, false, false, false, false, false] rfl rfl (any_of HT_.out (by kernel_rfl)) (fun _ _ _ h => h) (Or.inl ⟨by rfl, ?_⟩) ?_ ?_
         rotate_left
         ·intro w'
          go_simp
          with_reducible rfl
         rotate_left
         ·simp only [Act.put, List.setIfInBounds_toArray, List.set_cons_zero, List.set_cons_succ, i64_w, i32_w]
          rfl
         refine pure_ (i := 2) (N := some 28) (v := ?_) (a' := ?_) #[true, false, true, false, false, false, false, false, false, false] rfl rfl (any_of HT_.out (by kernel_rfl)) (fun _ _ _ h => h) (Or.inl ⟨by rfl, ?_⟩) ?_ ?_
         rotate_left
         ·intro w'
          go_simp
          with_reducible rfl
         rotate_left
         ·simp only [Act.put, List.setIfInBounds_toArray, List.set_cons_zero, List.set_cons_succ, i64_w, i32_w]
          rfl
         refine pure_ (i := 4) (N := some 30) (v := ?_) (a' := ?_) #[true, false, true, false, true, false, false, false, false, false] rfl rfl (any_of HT_.out (by kernel_rfl)) (fun _ _ _ h => h) (Or.inl ⟨by rfl, ?_⟩) ?_ ?_
         rotate_left
         ·intro w'
          go_simp
          with_reducible rfl
         rotate_left
         ·simp only [Act.put, List.setIfInBounds_toArray, List.set_cons_zero, List.set_cons_succ, i64_w, i32_w]
          rfl
         refine take_ (i := 1) (N := some 27) (v := ?_) (a' := ?_) #[true, true, true, false, true, false, false, false, false, false] rfl rfl (take_ofW HT_.out HW_.out (by kernel_rfl)) (fun _ _ _ h => h) (Or.inl ⟨by rfl, ?_⟩) hHeld ?_ ?_
         rotate_left
         ·rintro w' ⟨s0, s1⟩
          go_simp
          with_reducible rfl
         rotate_left
         ·simp only [Act.put, List.setIfInBounds_toArray, List.set_cons_zero, List.set_cons_succ, i64_w, i32_w]
          rfl
         refine pure_ (i := 3) (N := some 29) (v := ?_) (a' := ?_) #[true, true, true, true, true, false, false, false, false, false] rfl rfl (any_of HT_.out (by kernel_rfl)) (fun _ _ _ h => h) (Or.inl ⟨by rfl, ?_⟩) ?_ ?_
         rotate_left
         ·intro w'
          go_simp
          with_reducible rfl
         rotate_left
         ·simp only [Act.put, List.setIfInBounds_toArray, List.set_cons_zero, List.set_cons_succ, i64_w, i32_w]
          rfl
         refine take_ (i := 5) (N := some 31) (v := ?_) (a' := ?_) #[true, true, true, true, true, true, false, false, false, false] rfl rfl (take_ofW HT_.out HW_.out (by kernel_rfl)) (fun _ _ _ h => h) (Or.inl ⟨by rfl, ?_⟩) hHeld ?_ ?_
         rotate_left
         ·rintro w' ⟨s0, s1⟩
          go_simp
          with_reducible rfl
         rotate_left
         ·simp only [Act.put, List.setIfInBounds_toArray, List.set_cons_zero, List.set_cons_succ, i64_w, i32_w]
          rfl
         refine pure_ (i := 6) (N := some 32) (v := ?_) (a' := ?_) #[true, true, true, true, true, true, true, false, false, false] rfl rfl (any_of HT_.out (by kernel_rfl)) (fun _ _ _ h => h) (Or.inl ⟨by rfl, ?_⟩) ?_ ?_
         rotate_left
         ·intro w'
          go_simp
          with_reducible rfl
         rotate_left
         ·simp only [Act.put, List.setIfInBounds_toArray, List.set_cons_zero, List.set_cons_succ, i64_w, i32_w]
          rfl
         refine join_ (σ := Nat) 1 #[true, true, true, true, true, true, true, true, true, false] (fun s_ => [(33, .agg #[.string t492, .int .i64 t493]), (6, .pointer (some ⟨s_, 0, none⟩))]) (fun s_ w' => (w'.cell? ⟨gb489, 0, none⟩ = some (.string a0_0) ∧ w'.cell? ⟨gb489, 1, none⟩ = some (.int .i64 a0_1)) ∧ (w'.heap[gb489]? = some (.cells #[.string a0_0, .int .i64 a0_1] 28 (0, 0))) ∧ (w'.heap[gb490]? = some (.cells #[.string (⟨#[]⟩ : ByteArray), .int .i64 0] 28 (0, 0))) ∧ (w'.heap[s_]? = some (.cells #[.string (⟨#[]⟩ : ByteArray), .int .i64 0] 28 (0, 0))) ∧ (w.heap.size ≤ s_) ∧ (w.heap.size ≤ s_) ∧ (gb489 ≠ s_) ∧ (s_ ≠ gb489) ∧ (gb490 ≠ s_) ∧ (s_ ≠ gb490) ∧ (Below w.heap.size w w')) ?_ ?_
         rotate_left
         ·intro hCont
          refine two_ (i := 7) (j := 8) (Ni := some 33) (Nj := some 6) #[true, true, true, true, true, true, true, true, false, false] #[true, true, true, true, true, true, true, false, true, false] rfl rfl rfl rfl (two_of HT_.out (by kernel_rfl)) (by decide) (by decide) (fun K hK => ?_) (fun K hK => ?_)
          ·skip
           refine goes_ Tryd.func46 (by kernel_rfl) rfl #[.agg #[.string (a0_0.extract 0 ((ji23) : Int).toNat), .int .i64 a0_1]] (by rfl) rfl rfl (by (try simp only [List.map_toArray, List.map_cons, List.map_nil]); first | done | (simp only [hji23]; rfl) | rfl | (simp only [List.length_drop, List.length_take]; rfl)) ?_
           with_reducible refine (platenref04_In.calls kj2 (a0_0.extract 0 ((ji23) : Int).toNat) a0_1 t492 t493 _ A26.out).mono ?_
           rintro e w61 ⟨rfl, hb⟩
           refine ⟨_, rfl, ?_⟩
           replace BK489 := Aside0.mk (blk_below (g := gb489) (o := .cells #[.string a0_0, .int .i64 a0_1] 28 (0, 0)) bk hb)
           replace BK490 := Aside0.mk (blk_below (g := gb490) (o := .cells #[.string (⟨#[]⟩ : ByteArray), .int .i64 0] 28 (0, 0)) bk hb)
           replace HB := Aside0.mk (below_step bz hb)
           (try clear hb)
           (try clear hb2)
           (try clear hk)
           (try clear hi)
           refine hK.out _ _ ⟨(blk_cell BK489.out 0).trans rfl, (blk_cell BK489.out 1).trans rfl⟩ (fun hHeld => ?_)
           clear hK K
           refine norm_ (a' := ?_) ?_ ?_
           rotate_left
           ·show Act.put _ (some 33) _ = _
            simp only [Act.put, List.setIfInBounds_toArray, List.set_cons_zero, List.set_cons_succ, i64_w, i32_w]
            rfl
           refine one_ (i := 8) (N := some 6) #[true, true, true, true, true, true, true, true, true, false] rfl rfl (one_of HT_.out (by kernel_rfl)) (by decide) (fun K hK => ?_)
           refine box_step ?hg (N := 6) ?hd (cs := #[.string (⟨#[]⟩ : ByteArray), .int .i64 0]) (t := 28) ?hr ?_; (case hd => rfl); (case hg => rfl); (case hr => first | (go_simp; done) | (go_simp; rfl))
           intro gb494 hg w62 hbox hb
           have BK494 := Aside0.mk (hbox)
           have GW494 := Aside0.mk ((by rw [hg]; exact (below_size bz) : w.heap.size ≤ gb494))
           have GE494 := Aside0.mk ((by rw [hg]; exact (below_size bz) : w.heap.size ≤ gb494))
           have NB489_494 := Aside0.mk ((by rw [hg]; exact Nat.ne_of_lt (blk_lt (g := gb489) (o := .cells #[.string a0_0, .int .i64 a0_1] 28 (0, 0)) bk) : gb489 ≠ gb494))
           have NB494_489 := Aside0.mk ((by rw [hg]; exact Nat.ne_of_gt (blk_lt (g := gb489) (o := .cells #[.string a0_0, .int .i64 a0_1] 28 (0, 0)) bk) : gb494 ≠ gb489))
           have NB490_494 := Aside0.mk ((by rw [hg]; exact Nat.ne_of_lt (blk_lt (g := gb490) (o := .cells #[.string (⟨#[]⟩ : ByteArray), .int .i64 0] 28 (0, 0)) bk) : gb490 ≠ gb494))
           have NB494_490 := Aside0.mk ((by rw [hg]; exact Nat.ne_of_gt (blk_lt (g := gb490) (o := .cells #[.string (⟨#[]⟩ : ByteArray), .int .i64 0] 28 (0, 0)) bk) : gb494 ≠ gb490))
           replace BK489 := Aside0.mk (blk_below (g := gb489) (o := .cells #[.string a0_0, .int .i64 a0_1] 28 (0, 0)) bk hb)
           replace BK490 := Aside0.mk (blk_below (g := gb490) (o := .cells #[.string (⟨#[]⟩ : ByteArray), .int .i64 0] 28 (0, 0)) bk hb)
           replace HB := Aside0.mk (below_step bz hb)
           clear hb hbox hg
           refine hK.out _ _ ⟨(blk_cell BK489.out 0).trans rfl, (blk_cell BK489.out 1).trans rfl⟩ (fun hHeld => ?_)
           clear hK K
           refine norm_ (a' := ?_) ?_ ?_
           rotate_left
           ·show Act.put _ (some 6) _ = _
            simp only [Act.put, List.setIfInBounds_toArray, List.set_cons_zero, List.set_cons_succ, i64_w, i32_w]
            rfl
           exact norm_ (by simp only [putAll, Act.put, List.setIfInBounds_toArray, List.set_cons_zero, List.set_cons_succ]) (hCont (gb494) _ ⟨hHeld, bk, bk, bk, GW494.out, GE494.out, NB489_494.out, NB494_489.out, NB490_494.out, NB494_490.out, bz⟩)
          ·skip
           refine box_step ?hg (N := 6) ?hd (cs := #[.string (⟨#[]⟩ : ByteArray), .int .i64 0]) (t := 28) ?hr ?_; (case hd => rfl); (case hg => rfl); (case hr => first | (go_simp; done) | (go_simp; rfl))
           intro gb494 hg w61 hbox hb
           have BK494 := Aside0.mk (hbox)
           have GW494 := Aside0.mk ((by rw [hg]; exact (below_size bz) : w.heap.size ≤ gb494))
           have GE494 := Aside0.mk ((by rw [hg]; exact (below_size bz) : w.heap.size ≤ gb494))
           have NB489_494 := Aside0.mk ((by rw [hg]; exact Nat.ne_of_lt (blk_lt (g := gb489) (o := .cells #[.string a0_0, .int .i64 a0_1] 28 (0, 0)) bk) : gb489 ≠ gb494))
           have NB494_489 := Aside0.mk ((by rw [hg]; exact Nat.ne_of_gt (blk_lt (g := gb489) (o := .cells #[.string a0_0, .int .i64 a0_1] 28 (0, 0)) bk) : gb494 ≠ gb489))
           have NB490_494 := Aside0.mk ((by rw [hg]; exact Nat.ne_of_lt (blk_lt (g := gb490) (o := .cells #[.string (⟨#[]⟩ : ByteArray), .int .i64 0] 28 (0, 0)) bk) : gb490 ≠ gb494))
           have NB494_490 := Aside0.mk ((by rw [hg]; exact Nat.ne_of_gt (blk_lt (g := gb490) (o := .cells #[.string (⟨#[]⟩ : ByteArray), .int .i64 0] 28 (0, 0)) bk) : gb494 ≠ gb490))
           replace BK489 := Aside0.mk (blk_below (g := gb489) (o := .cells #[.string a0_0, .int .i64 a0_1] 28 (0, 0)) bk hb)
           replace BK490 := Aside0.mk (blk_below (g := gb490) (o := .cells #[.string (⟨#[]⟩ : ByteArray), .int .i64 0] 28 (0, 0)) bk hb)
           replace HB := Aside0.mk (below_step bz hb)
           clear hb hbox hg
           refine hK.out _ _ ⟨(blk_cell BK489.out 0).trans rfl, (blk_cell BK489.out 1).trans rfl⟩ (fun hHeld => ?_)
           clear hK K
           refine norm_ (a' := ?_) ?_ ?_
           rotate_left
           ·show Act.put _ (some 6) _ = _
            simp only [Act.put, List.setIfInBounds_toArray, List.set_cons_zero, List.set_cons_succ, i64_w, i32_w]
            rfl
           refine one_ (i := 7) (N := some 33) #[true, true, true, true, true, true, true, true, true, false] rfl rfl (one_of HT_.out (by kernel_rfl)) (by decide) (fun K hK => ?_)
           refine goes_ Tryd.func46 (by kernel_rfl) rfl #[.agg #[.string (a0_0.extract 0 ((ji23) : Int).toNat), .int .i64 a0_1]] (by rfl) rfl rfl (by (try simp only [List.map_toArray, List.map_cons, List.map_nil]); first | done | (simp only [hji23]; rfl) | rfl | (simp only [List.length_drop, List.length_take]; rfl)) ?_
           with_reducible refine (platenref04_In.calls kj2 (a0_0.extract 0 ((ji23) : Int).toNat) a0_1 t492 t493 _ A26.out).mono ?_
           rintro e w62 ⟨rfl, hb⟩
           refine ⟨_, rfl, ?_⟩
           replace BK489 := Aside0.mk (blk_below (g := gb489) (o := .cells #[.string a0_0, .int .i64 a0_1] 28 (0, 0)) bk hb)
           replace BK490 := Aside0.mk (blk_below (g := gb490) (o := .cells #[.string (⟨#[]⟩ : ByteArray), .int .i64 0] 28 (0, 0)) bk hb)
           replace BK494 := Aside0.mk (blk_below (g := gb494) (o := .cells #[.string (⟨#[]⟩ : ByteArray), .int .i64 0] 28 (0, 0)) bk hb)
           replace HB := Aside0.mk (below_step bz hb)
           (try clear hb)
           (try clear hb2)
           (try clear hk)
           (try clear hi)
           refine hK.out _ _ ⟨(blk_cell BK489.out 0).trans rfl, (blk_cell BK489.out 1).trans rfl⟩ (fun hHeld => ?_)
           clear hK K
           refine norm_ (a' := ?_) ?_ ?_
           rotate_left
           ·show Act.put _ (some 33) _ = _
            simp only [Act.put, List.setIfInBounds_toArray, List.set_cons_zero, List.set_cons_succ, i64_w, i32_w]
            rfl
           exact norm_ (by simp only [putAll, Act.put, List.setIfInBounds_toArray, List.set_cons_zero, List.set_cons_succ]) (hCont (gb494) _ ⟨hHeld, bk, bk, bk, GW494.out, GE494.out, NB489_494.out, NB494_489.out, NB490_494.out, NB494_490.out, bz⟩)
         rintro gb494 w63 ⟨hS_, h0_, h1_, h2_, h3_, h4_, h5_, h6_, h7_, h8_, h9_⟩
         have n0_ : Aside0 (w63.heap[gb489]? = some (.cells #[.string a0_0, .int .i64 a0_1] 28 (0, 0))) := ⟨h0_⟩
         have n1_ : Aside0 (w63.heap[gb490]? = some (.cells #[.string (⟨#[]⟩ : ByteArray), .int .i64 0] 28 (0, 0))) := ⟨h1_⟩
         have n2_ : Aside0 (w63.heap[gb494]? = some (.cells #[.string (⟨#[]⟩ : ByteArray), .int .i64 0] 28 (0, 0))) := ⟨h2_⟩
         have n3_ : Aside0 (w.heap.size ≤ gb494) := ⟨h3_⟩
         have n4_ : Aside0 (w.heap.size ≤ gb494) := ⟨h4_⟩
         have n5_ : Aside0 (gb489 ≠ gb494) := ⟨h5_⟩
         have n6_ : Aside0 (gb494 ≠ gb489) := ⟨h6_⟩
         have n7_ : Aside0 (gb490 ≠ gb494) := ⟨h7_⟩
         have n8_ : Aside0 (gb494 ≠ gb490) := ⟨h8_⟩
         have n9_ : Aside0 (Below w.heap.size w w63) := ⟨h9_⟩
         clear BK489
         clear BK490
         clear HB
         clear h0_ h1_ h2_ h3_ h4_ h5_ h6_ h7_ h8_ h9_
         have BK489 := n0_
         have BK490 := n1_
         have BK494 := n2_
         have GW494 := n3_
         have GE494 := n4_
         have NB489_494 := n5_
         have NB494_489 := n6_
         have NB490_494 := n7_
         have NB494_490 := n8_
         have HB := n9_
         clear n0_ n1_ n2_ n3_ n4_ n5_ n6_ n7_ n8_ n9_
         have hHeld : w63.cell? ⟨gb489, 0, none⟩ = some (.string a0_0) ∧ w63.cell? ⟨gb489, 1, none⟩ = some (.int .i64 a0_1) := hS_
         refine norm_ (a' := ?_) ?_ ?_
         rotate_left
         ·simp only [putAll, Act.put, List.setIfInBounds_toArray, List.set_cons_zero, List.set_cons_succ]
          rfl
         refine one_ (i := 9) (N := none) #[true, true, true, true, true, true, true, true, true, true] rfl rfl (one_of HT_.out (by kernel_rfl)) (by decide) (fun K hK => ?_)
         have hs64 : w63.cell? ⟨gb494, 0, none⟩ = some (.string (⟨#[]⟩ : ByteArray)) := (blk_cell BK494.out 0).trans rfl
         have hfs64 := blk_frozen BK494.out 0
         have hns64_0 := NB489_494.out
         have hns64_1 := NB490_494.out
         have hms64_0 := NB494_489.out
         have hms64_1 := NB494_490.out
         have hs65 : w63.cell? ⟨gb494, 1, none⟩ = some (.int .i64 0) := (blk_cell BK494.out 1).trans rfl
         have hfs65 := blk_frozen BK494.out 1
         have hns65_0 := NB489_494.out
         have hns65_1 := NB490_494.out
         have hms65_0 := NB494_489.out
         have hms65_1 := NB494_490.out
         refine skip_ (w1 := ?_) (by rfl) rfl ?_ ?_
         rotate_left
         ·go_simp
          rfl
         refine hK.out _ _ ⟨((cell_far (p := ⟨gb494, _, none⟩) NB489_494.out _).trans (((cell_far (p := ⟨gb494, _, none⟩) NB489_494.out _).trans (hHeld.1)))), ((cell_far (p := ⟨gb494, _, none⟩) NB489_494.out _).trans (((cell_far (p := ⟨gb494, _, none⟩) NB489_494.out _).trans (hHeld.2))))⟩ (fun hHeld => ?_)
         clear hK K
         refine done_ (done_of HT_.out (by kernel_rfl)) ?_
         have hnb66 := NB494_489.out
         have hnc66 := NB489_494.out
         have hnb67 := NB494_490.out
         have hnc67 := NB490_494.out
         obtain ⟨hcz68_0, hcz68_1, hfz68_0, hfz68_1⟩ := cz2 (W := w63) BK494
         try go_wp2_with (first | ((with_reducible refine gate_callee (f := 47) rfl ?_); refine goesL_ (some 38) rfl rfl Tryd.func47 (by kernel_rfl) rfl #[.agg #[.string t492, .int .i64 t493], .agg #[.string (⟨#[49]⟩ : ByteArray), .int .i64 (wrap64 (a1 + 1))]] rfl lz ?_; (with_reducible refine (platenref04_Sum.calls kj2 t492 t493 (⟨#[49]⟩ : ByteArray) (wrap64 (a1 + 1)) t495 t496 _ A27.out).mono ?_); rintro e w69 ⟨rfl, hb⟩; refine ⟨_, rfl, ?_⟩; replace BK489 := kN (g := gb489) (cs := #[.string a0_0, .int .i64 a0_1]) hb bk; replace BK490 := kN (g := gb490) (cs := #[.string (⟨#[]⟩ : ByteArray), .int .i64 0]) hb bk; replace BK494 := kN (g := gb494) (cs := #[.string t492, .int .i64 t493]) hb bk; replace HB := bN bz hb; (try clear hb); (try clear hb2); (try clear hk); (try clear hi)) | ((with_reducible refine gate_dst (N := 7) rfl ?_); refine box_event rfl (N := 7) rfl (cs := #[.string (⟨#[]⟩ : ByteArray), .int .i64 0]) (t := 28) gz ?_; intro gb497 hg w70 hbox hb; have GW497 := gN bz hg; have GE497 := gN bz hg; have NB489_497 := lN (g := gb489) (cs := #[.string a0_0, .int .i64 a0_1]) hg bk; have NB497_489 := rN (g := gb489) (cs := #[.string a0_0, .int .i64 a0_1]) hg bk; have NB490_497 := lN (g := gb490) (cs := #[.string (⟨#[]⟩ : ByteArray), .int .i64 0]) hg bk; have NB497_490 := rN (g := gb490) (cs := #[.string (⟨#[]⟩ : ByteArray), .int .i64 0]) hg bk; have NB494_497 := lN (g := gb494) (cs := #[.string t492, .int .i64 t493]) hg bk; have NB497_494 := rN (g := gb494) (cs := #[.string t492, .int .i64 t493]) hg bk; replace BK489 := kN (g := gb489) (cs := #[.string a0_0, .int .i64 a0_1]) hb bk; replace BK490 := kN (g := gb490) (cs := #[.string (⟨#[]⟩ : ByteArray), .int .i64 0]) hb bk; replace BK494 := kN (g := gb494) (cs := #[.string t492, .int .i64 t493]) hb bk; have BK497 := Aside0.mk hbox; replace HB := bN bz hb; clear hb hbox hg; have hnb71 := NB497_489.out; have hnc71 := NB489_497.out; have hnb72 := NB497_490.out; have hnc72 := NB490_497.out; have hnb73 := NB497_494.out; have hnc73 := NB494_497.out; obtain ⟨hcz74_0, hcz74_1, hfz74_0, hfz74_1⟩ := cz2 (W := w70) BK497))
         have n0_ : Aside0 (((w70.setCell ⟨gb497, 0, none⟩ (.string t495)).setCell ⟨gb497, 1, none⟩ (.int .i64 t496)).heap[gb489]? = some (.cells #[.string a0_0, .int .i64 a0_1] 28 (0, 0))) := ⟨bk⟩
         have n1_ : Aside0 (((w70.setCell ⟨gb497, 0, none⟩ (.string t495)).setCell ⟨gb497, 1, none⟩ (.int .i64 t496)).heap[gb490]? = some (.cells #[.string (⟨#[]⟩ : ByteArray), .int .i64 0] 28 (0, 0))) := ⟨bk⟩
         have n2_ : Aside0 (((w70.setCell ⟨gb497, 0, none⟩ (.string t495)).setCell ⟨gb497, 1, none⟩ (.int .i64 t496)).heap[gb494]? = some (.cells #[.string t492, .int .i64 t493] 28 (0, 0))) := ⟨bk⟩
         have n3_ : Aside0 (((w70.setCell ⟨gb497, 0, none⟩ (.string t495)).setCell ⟨gb497, 1, none⟩ (.int .i64 t496)).heap[gb497]? = some (.cells #[.string t495, .int .i64 t496] 28 (0, 0))) := ⟨bk⟩
         have n4_ : Aside0 (Below w.heap.size w ((w70.setCell ⟨gb497, 0, none⟩ (.string t495)).setCell ⟨gb497, 1, none⟩ (.int .i64 t496))) := ⟨bz⟩
         (try clear BK489)
         (try clear BK490)
         (try clear BK494)
         (try clear BK497)
         (try clear HB)
         generalize ((w70.setCell ⟨gb497, 0, none⟩ (.string t495)).setCell ⟨gb497, 1, none⟩ (.int .i64 t496)) = w75 at n0_ n1_ n2_ n3_ n4_ ⊢
         have BK489 := n0_
         have BK490 := n1_
         have BK494 := n2_
         have BK497 := n3_
         have HB := n4_
         clear n0_ n1_ n2_ n3_ n4_
         replace BK489 := Aside0.mk (blk_drew BK489.out)
         replace BK490 := Aside0.mk (blk_drew BK490.out)
         replace BK494 := Aside0.mk (blk_drew BK494.out)
         replace BK497 := Aside0.mk (blk_drew BK497.out)
         replace HB := Aside0.mk (below_drew1 HB.out)
         refine start_ (n := 8) (S := fun w' => w'.cell? ⟨gb489, 0, none⟩ = some (.string a0_0) ∧ w'.cell? ⟨gb489, 1, none⟩ = some (.int .i64 a0_1) ∧ w'.cell? ⟨gb494, 0, none⟩ = some (.string t492) ∧ w'.cell? ⟨gb494, 1, none⟩ = some (.int .i64 t493) ∧ w'.cell? ⟨gb497, 0, none⟩ = some (.string t495) ∧ w'.cell? ⟨gb497, 1, none⟩ = some (.int .i64 t496)) (ds := []) #[false, false, false, false, false, false, false, false] (by kernel_rfl) rfl rfl ⟨(blk_cell BK489.out 0).trans rfl, (blk_cell BK489.out 1).trans rfl, (blk_cell BK494.out 0).trans rfl, (blk_cell BK494.out 1).trans rfl, (blk_cell BK497.out 0).trans rfl, (blk_cell BK497.out 1).trans rfl⟩ (fun hHeld => ?_); refine with_tabW platenref04_Nearest.tab8 platenref04_Nearest.bits8 (fun HT_ HW_ => ?_)
         generalize w75.drew = w76 at BK489 BK490 BK494 BK497 HB hHeld ⊢
         refine take_ (i := 0) (N := some 39) (v := ?_) (a' := ?_) #[true, false, false, false, false, false, false, false] rfl rfl (take_ofW HT_.out HW_.out (by kernel_rfl)) (fun _ _ _ h => h) (Or.inl ⟨by rfl, ?_⟩) hHeld ?_ ?_
         rotate_left
         ·rintro w' ⟨s0, s1, s2, s3, s4, s5⟩
          go_simp
          with_reducible rfl
         rotate_left
         ·simp only [Act.put, List.setIfInBounds_toArray, List.set_cons_zero, List.set_cons_succ, i64_w, i32_w]
          rfl
         refine take_ (i := 1) (N := some 40) (v := ?_) (a' := ?_) #[true, true, false, false, false, false, false, false] rfl rfl (take_ofW HT_.out HW_.out (by kernel_rfl)) (fun _ _ _ h => h) (Or.inl ⟨by rfl, ?_⟩) hHeld ?_ ?_
         rotate_left
         ·rintro w' ⟨s0, s1, s2, s3, s4, s5⟩
          go_simp
          with_reducible rfl
         rotate_left
         ·simp only [Act.put, List.setIfInBounds_toArray, List.set_cons_zero, List.set_cons_succ, i64_w, i32_w]
          rfl
         refine take_ (i := 3) (N := some 42) (v := ?_) (a' := ?_) #[true, true, false, true, false, false, false, false] rfl rfl (take_ofW HT_.out HW_.out (by kernel_rfl)) (fun _ _ _ h => h) (Or.inl ⟨by rfl, ?_⟩) hHeld ?_ ?_
         rotate_left
         ·rintro w' ⟨s0, s1, s2, s3, s4, s5⟩
          go_simp
          with_reducible rfl
         rotate_left
         ·simp only [Act.put, List.setIfInBounds_toArray, List.set_cons_zero, List.set_cons_succ, i64_w, i32_w]
          rfl
         refine take_ (i := 4) (N := some 43) (v := ?_) (a' := ?_) #[true, true, false, true, true, false, false, false] rfl rfl (take_ofW HT_.out HW_.out (by kernel_rfl)) (fun _ _ _ h => h) (Or.inl ⟨by rfl, ?_⟩) hHeld ?_ ?_
         rotate_left
         ·rintro w' ⟨s0, s1, s2, s3, s4, s5⟩
          go_simp
          with_reducible rfl
         rotate_left
         ·simp only [Act.put, List.setIfInBounds_toArray, List.set_cons_zero, List.set_cons_succ, i64_w, i32_w]
          rfl
         refine one_ (i := 2) (N := some 41) #[true, true, true, true, true, false, false, false] rfl rfl (one_of HT_.out (by kernel_rfl)) (by decide) (fun K hK => ?_)
         refine goes_ Tryd.func47 (by kernel_rfl) rfl #[.agg #[.string a0_0, .int .i64 a0_1], .agg #[.string a0_0, .int .i64 a0_1]] (by rfl) rfl rfl lz ?_
         with_reducible refine (platenref04_Sum.calls kj2 a0_0 a0_1 a0_0 a0_1 t498 t499 _ A28.out).mono ?_
         rintro e w77 ⟨rfl, hb⟩
         refine ⟨_, rfl, ?_⟩
         replace BK489 := Aside0.mk (blk_below (g := gb489) (o := .cells #[.string a0_0, .int .i64 a0_1] 28 (0, 0)) bk hb)
         replace BK490 := Aside0.mk (blk_below (g := gb490) (o := .cells #[.string (⟨#[]⟩ : ByteArray), .int .i64 0] 28 (0, 0)) bk hb)
         replace BK494 := Aside0.mk (blk_below (g := gb494) (o := .cells #[.string t492, .int .i64 t493] 28 (0, 0)) bk hb)
         replace BK497 := Aside0.mk (blk_below (g := gb497) (o := .cells #[.string t495, .int .i64 t496] 28 (0, 0)) bk hb)
         replace HB := Aside0.mk (below_step bz hb)
         (try clear hb)
         (try clear hb2)
         (try clear hk)
         (try clear hi)
         refine hK.out _ _ ⟨(blk_cell BK489.out 0).trans rfl, (blk_cell BK489.out 1).trans rfl, (blk_cell BK494.out 0).trans rfl, (blk_cell BK494.out 1).trans rfl, (blk_cell BK497.out 0).trans rfl, (blk_cell BK497.out 1).trans rfl⟩ (fun hHeld => ?_)
         clear hK K
         refine norm_ (a' := ?_) ?_ ?_
         rotate_left
         ·show Act.put _ (some 41) _ = _
          simp only [Act.put, List.setIfInBounds_toArray, List.set_cons_zero, List.set_cons_succ, i64_w, i32_w]
          rfl
         refine one_ (i := 5) (N := some 44) #[true, true, true, true, true, true, false, false] rfl rfl (one_of HT_.out (by kernel_rfl)) (by decide) (fun K hK => ?_)
         refine goes_ Tryd.func47 (by kernel_rfl) rfl #[.agg #[.string t492, .int .i64 t493], .agg #[.string t495, .int .i64 t496]] (by rfl) rfl rfl lz ?_
         with_reducible refine (platenref04_Sum.calls kj2 t492 t493 t495 t496 t500 t501 _ A29.out).mono ?_
         rintro e w78 ⟨rfl, hb⟩
         refine ⟨_, rfl, ?_⟩
         replace BK489 := Aside0.mk (blk_below (g := gb489) (o := .cells #[.string a0_0, .int .i64 a0_1] 28 (0, 0)) bk hb)
         replace BK490 := Aside0.mk (blk_below (g := gb490) (o := .cells #[.string (⟨#[]⟩ : ByteArray), .int .i64 0] 28 (0, 0)) bk hb)
         replace BK494 := Aside0.mk (blk_below (g := gb494) (o := .cells #[.string t492, .int .i64 t493] 28 (0, 0)) bk hb)
         replace BK497 := Aside0.mk (blk_below (g := gb497) (o := .cells #[.string t495, .int .i64 t496] 28 (0, 0)) bk hb)
         replace HB := Aside0.mk (below_step bz hb)
         (try clear hb)
         (try clear hb2)
         (try clear hk)
         (try clear hi)
         refine hK.out _ _ ⟨(blk_cell BK489.out 0).trans rfl, (blk_cell BK489.out 1).trans rfl, (blk_cell BK494.out 0).trans rfl, (blk_cell BK494.out 1).trans rfl, (blk_cell BK497.out 0).trans rfl, (blk_cell BK497.out 1).trans rfl⟩ (fun hHeld => ?_)
         clear hK K
         refine norm_ (a' := ?_) ?_ ?_
         rotate_left
         ·show Act.put _ (some 44) _ = _
          simp only [Act.put, List.setIfInBounds_toArray, List.set_cons_zero, List.set_cons_succ, i64_w, i32_w]
          rfl
         refine one_ (i := 6) (N := some 45) #[true, true, true, true, true, true, true, false] rfl rfl (one_of HT_.out (by kernel_rfl)) (by decide) (fun K hK => ?_)
         refine goes_ Tryd.func60 (by kernel_rfl) rfl #[.agg #[.string t498, .int .i64 t499], .agg #[.string t500, .int .i64 t501]] (by rfl) rfl rfl lz ?_
         with_reducible refine (platenref04_Compare.calls kj2 t498 t499 t500 t501 t502 _ A30.out).mono ?_
         rintro e w79 ⟨rfl, hb⟩
         refine ⟨_, rfl, ?_⟩
         replace BK489 := Aside0.mk (blk_below (g := gb489) (o := .cells #[.string a0_0, .int .i64 a0_1] 28 (0, 0)) bk hb)
         replace BK490 := Aside0.mk (blk_below (g := gb490) (o := .cells #[.string (⟨#[]⟩ : ByteArray), .int .i64 0] 28 (0, 0)) bk hb)
         replace BK494 := Aside0.mk (blk_below (g := gb494) (o := .cells #[.string t492, .int .i64 t493] 28 (0, 0)) bk hb)
         replace BK497 := Aside0.mk (blk_below (g := gb497) (o := .cells #[.string t495, .int .i64 t496] 28 (0, 0)) bk hb)
         replace HB := Aside0.mk (below_step bz hb)
         (try clear hb)
         (try clear hb2)
         (try clear hk)
         (try clear hi)
         refine hK.out _ _ ⟨(blk_cell BK489.out 0).trans rfl, (blk_cell BK489.out 1).trans rfl, (blk_cell BK494.out 0).trans rfl, (blk_cell BK494.out 1).trans rfl, (blk_cell BK497.out 0).trans rfl, (blk_cell BK497.out 1).trans rfl⟩ (fun hHeld => ?_)
         clear hK K
         refine norm_ (a' := ?_) ?_ ?_
         rotate_left
         ·show Act.put _ (some 45) _ = _
          simp only [Act.put, List.setIfInBounds_toArray, List.set_cons_zero, List.set_cons_succ, i64_w, i32_w]
          rfl
         refine pure_ (i := 7) (N := some 8) (v := ?_) (a' := ?_) #[true, true, true, true, true, true, true, true] rfl rfl (any_of HT_.out (by kernel_rfl)) (fun _ _ _ h => h) (Or.inl ⟨by rfl, ?_⟩) ?_ ?_
         rotate_left
         ·intro w'
          go_simp
          with_reducible rfl
         rotate_left
         ·simp only [Act.put, List.setIfInBounds_toArray, List.set_cons_zero, List.set_cons_succ, i64_w, i32_w]
          rfl
         refine done_ (done_of HT_.out (by kernel_rfl)) ?_
         obtain ⟨hcz80_0, hcz80_1, hfz80_0, hfz80_1⟩ := cz2 (W := w79) BK494
         go_upto_if 58 with (first | (go_at_call 58; (with_reducible refine (platenref04_digit.calls t492 t493 a1 t503 _ A57.out).mono ?_); rintro e w81 ⟨rfl, hb⟩; replace BK489 := kN (g := gb489) (cs := #[.string a0_0, .int .i64 a0_1]) hb bk; replace BK490 := kN (g := gb490) (cs := #[.string (⟨#[]⟩ : ByteArray), .int .i64 0]) hb bk; replace BK494 := kN (g := gb494) (cs := #[.string t492, .int .i64 t493]) hb bk; replace BK497 := kN (g := gb497) (cs := #[.string t495, .int .i64 t496]) hb bk; replace HB := bN bz hb; (try clear hb); (try clear hb2); (try clear hk); (try clear hi)))
         (try simp only [Act.put, List.setIfInBounds_toArray, List.set_cons_zero, List.set_cons_succ])
         by_cases c82 : (Int.tmod t503 2) = 0
         ·rw [if_pos c82] at H
          obtain ⟨c82b0, c82b1⟩ := eT c82
          clear c82
          try first | rw [c82b0] | rw [c82b1]
          simp only [Option.some.injEq, Prod.mk.injEq] at H
          obtain ⟨rfl, rfl⟩ := H
          have hnb83 := NB494_489.out
          have hnc83 := NB489_494.out
          have hnb84 := NB494_490.out
          have hnc84 := NB490_494.out
          have hnb85 := NB494_497.out
          have hnc85 := NB497_494.out
          obtain ⟨hcz86_0, hcz86_1, hfz86_0, hfz86_1⟩ := cz2 (W := w81) BK494
          have hnb87 := NB490_489.out
          have hnc87 := NB489_490.out
          have hnb88 := NB490_497.out
          have hnc88 := NB497_490.out
          obtain ⟨hcz89_0, hcz89_1, hfz89_0, hfz89_1⟩ := cz2 (W := w81) BK490
          go_wp2
          refine bodyPost_ret (results_cell_row rfl _ _ gb490 28 #[.string t492, .int .i64 t493] (0, 0) _ rfl bk Tryd.underlying28 rfl (by kernel_rfl)) rfl ?_
          exact ⟨by first | rfl | (simp [errW_none, errW_some] <;> rfl) | (simp only [← hji23]; first | rfl | (simp [errW_none, errW_some] <;> rfl)) | (simp [*, errW_none, errW_some] <;> rfl), bz⟩
         ·rw [if_neg c82] at H
          obtain ⟨c82b0, c82b1⟩ := eF c82
          try first | rw [c82b0] | rw [c82b1]
          simp only [Option.some.injEq, Prod.mk.injEq] at H
          obtain ⟨rfl, rfl⟩ := H
          have hnb90 := NB497_489.out
          have hnc90 := NB489_497.out
          have hnb91 := NB497_490.out
          have hnc91 := NB490_497.out
          have hnb92 := NB497_494.out
          have hnc92 := NB494_497.out
          obtain ⟨hcz93_0, hcz93_1, hfz93_0, hfz93_1⟩ := cz2 (W := w81) BK497
          have hnb94 := NB490_489.out
          have hnc94 := NB489_490.out
          have hnb95 := NB490_494.out
          have hnc95 := NB494_490.out
          obtain ⟨hcz96_0, hcz96_1, hfz96_0, hfz96_1⟩ := cz2 (W := w81) BK490
          go_wp2
          refine bodyPost_ret (results_cell_row rfl _ _ gb490 28 #[.string t495, .int .i64 t496] (0, 0) _ rfl bk Tryd.underlying28 rfl (by kernel_rfl)) rfl ?_
          exact ⟨by first | rfl | (simp [errW_none, errW_some] <;> rfl) | (simp only [← hji23]; first | rfl | (simp [errW_none, errW_some] <;> rfl)) | (simp [*, errW_none, errW_some] <;> rfl), bz⟩
        ·rw [if_neg c56] at H
         obtain ⟨c56b0, c56b1⟩ := eF c56
         simp only [Option.some.injEq, Prod.mk.injEq] at H
         obtain ⟨rfl, rfl⟩ := H
         have hnb97 := NB489_490.out
         have hnc97 := NB490_489.out
         obtain ⟨hcz98_0, hcz98_1, hfz98_0, hfz98_1⟩ := cz2 (W := wc) BK489
         try go_wp2
         replace BK489 := Aside0.mk (blk_drew BK489.out)
         replace BK490 := Aside0.mk (blk_drew BK490.out)
         replace HB := Aside0.mk (below_drew1 HB.out)
         refine start_ (n := 10) (S := fun w' => w'.cell? ⟨gb489, 0, none⟩ = some (.string a0_0) ∧ w'.cell? ⟨gb489, 1, none⟩ = some (.int .i64 a0_1)) (ds := []) #[false, false, false, false, false, false, false, false, false, false] (by kernel_rfl) rfl rfl ⟨(blk_cell BK489.out 0).trans rfl, (blk_cell BK489.out 1).trans rfl⟩ (fun hHeld => ?_); refine with_tabW platenref04_Nearest.tab6 platenref04_Nearest.bits6 (fun HT_ HW_ => ?_)
         generalize wc.drew = w99 at BK489 BK490 HB hHeld ⊢
         refine pure_ (i := 0) (N := some 26) (v := ?_) (a' := ?_) #[true, false, false, false, false, false, false, false, false, false] rfl rfl (any_of HT_.out (by kernel_rfl)) (fun _ _ _ h => h) (Or.inl ⟨by rfl, ?_⟩) ?_ ?_
         rotate_left
         ·intro w'
          go_simp
          with_reducible rfl
         rotate_left
         ·simp only [Act.put, List.setIfInBounds_toArray, List.set_cons_zero, List.set_cons_succ, i64_w, i32_w]
          rfl
         refine pure_ (i := 2) (N := some 28) (v := ?_) (a' := ?_) #[true, false, true, false, false, false, false, false, false, false] rfl rfl (any_of HT_.out (by kernel_rfl)) (fun _ _ _ h => h) (Or.inl ⟨by rfl, ?_⟩) ?_ ?_
         rotate_left
         ·intro w'
          go_simp
          with_reducible rfl
         rotate_left
         ·simp only [Act.put, List.setIfInBounds_toArray, List.set_cons_zero, List.set_cons_succ, i64_w, i32_w]
          rfl
         refine pure_ (i := 4) (N := some 30) (v := ?_) (a' := ?_) #[true, false, true, false, true, false, false, false, false, false] rfl rfl (any_of HT_.out (by kernel_rfl)) (fun _ _ _ h => h) (Or.inl ⟨by rfl, ?_⟩) ?_ ?_
         rotate_left
         ·intro w'
          go_simp
          with_reducible rfl
         rotate_left
         ·simp only [Act.put, List.setIfInBounds_toArray, List.set_cons_zero, List.set_cons_succ, i64_w, i32_w]
          rfl
         refine take_ (i := 1) (N := some 27) (v := ?_) (a' := ?_) #[true, true, true, false, true, false, false, false, false, false] rfl rfl (take_ofW HT_.out HW_.out (by kernel_rfl)) (fun _ _ _ h => h) (Or.inl ⟨by rfl, ?_⟩) hHeld ?_ ?_
         rotate_left
         ·rintro w' ⟨s0, s1⟩
          go_simp
          with_reducible rfl
         rotate_left
         ·simp only [Act.put, List.setIfInBounds_toArray, List.set_cons_zero, List.set_cons_succ, i64_w, i32_w]
          rfl
         refine pure_ (i := 3) (N := some 29) (v := ?_) (a' := ?_) #[true, true, true, true, true, false, false, false, false, false] rfl rfl (any_of HT_.out (by kernel_rfl)) (fun _ _ _ h => h) (Or.inl ⟨by rfl, ?_⟩) ?_ ?_
         rotate_left
         ·intro w'
          go_simp
          with_reducible rfl
         rotate_left
         ·simp only [Act.put, List.setIfInBounds_toArray, List.set_cons_zero, List.set_cons_succ, i64_w, i32_w]
          rfl
         refine take_ (i := 5) (N := some 31) (v := ?_) (a' := ?_) #[true, true, true, true, true, true, false, false, false, false] rfl rfl (take_ofW HT_.out HW_.out (by kernel_rfl)) (fun _ _ _ h => h) (Or.inl ⟨by rfl, ?_⟩) hHeld ?_ ?_
         rotate_left
         ·rintro w' ⟨s0, s1⟩
          go_simp
          with_reducible rfl
         rotate_left
         ·simp only [Act.put, List.setIfInBounds_toArray, List.set_cons_zero, List.set_cons_succ, i64_w, i32_w]
          rfl
         refine pure_ (i := 6) (N := some 32) (v := ?_) (a' := ?_) #[true, true, true, true, true, true, true, false, false, false] rfl rfl (any_of HT_.out (by kernel_rfl)) (fun _ _ _ h => h) (Or.inl ⟨by rfl, ?_⟩) ?_ ?_
         rotate_left
         ·intro w'
          go_simp
          with_reducible rfl
         rotate_left
         ·simp only [Act.put, List.setIfInBounds_toArray, List.set_cons_zero, List.set_cons_succ, i64_w, i32_w]
          rfl
         refine join_ (σ := Nat) 1 #[true, true, true, true, true, true, true, true, true, false] (fun s_ => [(33, .agg #[.string t492, .int .i64 t493]), (6, .pointer (some ⟨s_, 0, none⟩))]) (fun s_ w' => (w'.cell? ⟨gb489, 0, none⟩ = some (.string a0_0) ∧ w'.cell? ⟨gb489, 1, none⟩ = some (.int .i64 a0_1)) ∧ (w'.heap[gb489]? = some (.cells #[.string a0_0, .int .i64 a0_1] 28 (0, 0))) ∧ (w'.heap[gb490]? = some (.cells #[.string (⟨#[]⟩ : ByteArray), .int .i64 0] 28 (0, 0))) ∧ (w'.heap[s_]? = some (.cells #[.string (⟨#[]⟩ : ByteArray), .int .i64 0] 28 (0, 0))) ∧ (w.heap.size ≤ s_) ∧ (w.heap.size ≤ s_) ∧ (gb489 ≠ s_) ∧ (s_ ≠ gb489) ∧ (gb490 ≠ s_) ∧ (s_ ≠ gb490) ∧ (Below w.heap.size w w')) ?_ ?_
         rotate_left
         ·intro hCont
          refine two_ (i := 7) (j := 8) (Ni := some 33) (Nj := some 6) #[true, true, true, true, true, true, true, true, false, false] #[true, true, true, true, true, true, true, false, true, false] rfl rfl rfl rfl (two_of HT_.out (by kernel_rfl)) (by decide) (by decide) (fun K hK => ?_) (fun K hK => ?_)
          ·skip
           refine goes_ Tryd.func46 (by kernel_rfl) rfl #[.agg #[.string (a0_0.extract 0 ((ji23) : Int).toNat), .int .i64 a0_1]] (by rfl) rfl rfl (by (try simp only [List.map_toArray, List.map_cons, List.map_nil]); first | done | (simp only [hji23]; rfl) | rfl | (simp only [List.length_drop, List.length_take]; rfl)) ?_
           with_reducible refine (platenref04_In.calls kj2 (a0_0.extract 0 ((ji23) : Int).toNat) a0_1 t492 t493 _ A26.out).mono ?_
           rintro e w100 ⟨rfl, hb⟩
           refine ⟨_, rfl, ?_⟩
           replace BK489 := Aside0.mk (blk_below (g := gb489) (o := .cells #[.string a0_0, .int .i64 a0_1] 28 (0, 0)) bk hb)
           replace BK490 := Aside0.mk (blk_below (g := gb490) (o := .cells #[.string (⟨#[]⟩ : ByteArray), .int .i64 0] 28 (0, 0)) bk hb)
           replace HB := Aside0.mk (below_step bz hb)
           (try clear hb)
           (try clear hb2)
           (try clear hk)
           (try clear hi)
           refine hK.out _ _ ⟨(blk_cell BK489.out 0).trans rfl, (blk_cell BK489.out 1).trans rfl⟩ (fun hHeld => ?_)
           clear hK K
           refine norm_ (a' := ?_) ?_ ?_
           rotate_left
           ·show Act.put _ (some 33) _ = _
            simp only [Act.put, List.setIfInBounds_toArray, List.set_cons_zero, List.set_cons_succ, i64_w, i32_w]
            rfl
           refine one_ (i := 8) (N := some 6) #[true, true, true, true, true, true, true, true, true, false] rfl rfl (one_of HT_.out (by kernel_rfl)) (by decide) (fun K hK => ?_)
           refine box_step ?hg (N := 6) ?hd (cs := #[.string (⟨#[]⟩ : ByteArray), .int .i64 0]) (t := 28) ?hr ?_; (case hd => rfl); (case hg => rfl); (case hr => first | (go_simp; done) | (go_simp; rfl))
           intro gb494 hg w101 hbox hb
           have BK494 := Aside0.mk (hbox)
           have GW494 := Aside0.mk ((by rw [hg]; exact (below_size bz) : w.heap.size ≤ gb494))
           have GE494 := Aside0.mk ((by rw [hg]; exact (below_size bz) : w.heap.size ≤ gb494))
           have NB489_494 := Aside0.mk ((by rw [hg]; exact Nat.ne_of_lt (blk_lt (g := gb489) (o := .cells #[.string a0_0, .int .i64 a0_1] 28 (0, 0)) bk) : gb489 ≠ gb494))
           have NB494_489 := Aside0.mk ((by rw [hg]; exact Nat.ne_of_gt (blk_lt (g := gb489) (o := .cells #[.string a0_0, .int .i64 a0_1] 28 (0, 0)) bk) : gb494 ≠ gb489))
           have NB490_494 := Aside0.mk ((by rw [hg]; exact Nat.ne_of_lt (blk_lt (g := gb490) (o := .cells #[.string (⟨#[]⟩ : ByteArray), .int .i64 0] 28 (0, 0)) bk) : gb490 ≠ gb494))
           have NB494_490 := Aside0.mk ((by rw [hg]; exact Nat.ne_of_gt (blk_lt (g := gb490) (o := .cells #[.string (⟨#[]⟩ : ByteArray), .int .i64 0] 28 (0, 0)) bk) : gb494 ≠ gb490))
           replace BK489 := Aside0.mk (blk_below (g := gb489) (o := .cells #[.string a0_0, .int .i64 a0_1] 28 (0, 0)) bk hb)
           replace BK490 := Aside0.mk (blk_below (g := gb490) (o := .cells #[.string (⟨#[]⟩ : ByteArray), .int .i64 0] 28 (0, 0)) bk hb)
           replace HB := Aside0.mk (below_step bz hb)
           clear hb hbox hg
           refine hK.out _ _ ⟨(blk_cell BK489.out 0).trans rfl, (blk_cell BK489.out 1).trans rfl⟩ (fun hHeld => ?_)
           clear hK K
           refine norm_ (a' := ?_) ?_ ?_
           rotate_left
           ·show Act.put _ (some 6) _ = _
            simp only [Act.put, List.setIfInBounds_toArray, List.set_cons_zero, List.set_cons_succ, i64_w, i32_w]
            rfl
           exact norm_ (by simp only [putAll, Act.put, List.setIfInBounds_toArray, List.set_cons_zero, List.set_cons_succ]) (hCont (gb494) _ ⟨hHeld, bk, bk, bk, GW494.out, GE494.out, NB489_494.out, NB494_489.out, NB490_494.out, NB494_490.out, bz⟩)
          ·skip
           refine box_step ?hg (N := 6) ?hd (cs := #[.string (⟨#[]⟩ : ByteArray), .int .i64 0]) (t := 28) ?hr ?_; (case hd => rfl); (case hg => rfl); (case hr => first | (go_simp; done) | (go_simp; rfl))
           intro gb494 hg w100 hbox hb
           have BK494 := Aside0.mk (hbox)
           have GW494 := Aside0.mk ((by rw [hg]; exact (below_size bz) : w.heap.size ≤ gb494))
           have GE494 := Aside0.mk ((by rw [hg]; exact (below_size bz) : w.heap.size ≤ gb494))
           have NB489_494 := Aside0.mk ((by rw [hg]; exact Nat.ne_of_lt (blk_lt (g := gb489) (o := .cells #[.string a0_0, .int .i64 a0_1] 28 (0, 0)) bk) : gb489 ≠ gb494))
           have NB494_489 := Aside0.mk ((by rw [hg]; exact Nat.ne_of_gt (blk_lt (g := gb489) (o := .cells #[.string a0_0, .int .i64 a0_1] 28 (0, 0)) bk) : gb494 ≠ gb489))
           have NB490_494 := Aside0.mk ((by rw [hg]; exact Nat.ne_of_lt (blk_lt (g := gb490) (o := .cells #[.string (⟨#[]⟩ : ByteArray), .int .i64 0] 28 (0, 0)) bk) : gb490 ≠ gb494))
           have NB494_490 := Aside0.mk ((by rw [hg]; exact Nat.ne_of_gt (blk_lt (g := gb490) (o := .cells #[.string (⟨#[]⟩ : ByteArray), .int .i64 0] 28 (0, 0)) bk) : gb494 ≠ gb490))
           replace BK489 := Aside0.mk (blk_below (g := gb489) (o := .cells #[.string a0_0, .int .i64 a0_1] 28 (0, 0)) bk hb)
           replace BK490 := Aside0.mk (blk_below (g := gb490) (o := .cells #[.string (⟨#[]⟩ : ByteArray), .int .i64 0] 28 (0, 0)) bk hb)
           replace HB := Aside0.mk (below_step bz hb)
           clear hb hbox hg
           refine hK.out _ _ ⟨(blk_cell BK489.out 0).trans rfl, (blk_cell BK489.out 1).trans rfl⟩ (fun hHeld => ?_)
           clear hK K
           refine norm_ (a' := ?_) ?_ ?_
           rotate_left
           ·show Act.put _ (some 6) _ = _
            simp only [Act.put, List.setIfInBounds_toArray, List.set_cons_zero, List.set_cons_succ, i64_w, i32_w]
            rfl
           refine one_ (i := 7) (N := some 33) #[true, true, true, true, true, true, true, true, true, false] rfl rfl (one_of HT_.out (by kernel_rfl)) (by decide) (fun K hK => ?_)
           refine goes_ Tryd.func46 (by kernel_rfl) rfl #[.agg #[.string (a0_0.extract 0 ((ji23) : Int).toNat), .int .i64 a0_1]] (by rfl) rfl rfl (by (try simp only [List.map_toArray, List.map_cons, List.map_nil]); first | done | (simp only [hji23]; rfl) | rfl | (simp only [List.length_drop, List.length_take]; rfl)) ?_
           with_reducible refine (platenref04_In.calls kj2 (a0_0.extract 0 ((ji23) : Int).toNat) a0_1 t492 t493 _ A26.out).mono ?_
           rintro e w101 ⟨rfl, hb⟩
           refine ⟨_, rfl, ?_⟩
           replace BK489 := Aside0.mk (blk_below (g := gb489) (o := .cells #[.string a0_0, .int .i64 a0_1] 28 (0, 0)) bk hb)
           replace BK490 := Aside0.mk (blk_below (g := gb490) (o := .cells #[.string (⟨#[]⟩ : ByteArray), .int .i64 0] 28 (0, 0)) bk hb)
           replace BK494 := Aside0.mk (blk_below (g := gb494) (o := .cells #[.string (⟨#[]⟩ : ByteArray), .int .i64 0] 28 (0, 0)) bk hb)
           replace HB := Aside0.mk (below_step bz hb)
           (try clear hb)
           (try clear hb2)
           (try clear hk)
           (try clear hi)
           refine hK.out _ _ ⟨(blk_cell BK489.out 0).trans rfl, (blk_cell BK489.out 1).trans rfl⟩ (fun hHeld => ?_)
           clear hK K
           refine norm_ (a' := ?_) ?_ ?_
           rotate_left
           ·show Act.put _ (some 33) _ = _
            simp only [Act.put, List.setIfInBounds_toArray, List.set_cons_zero, List.set_cons_succ, i64_w, i32_w]
            rfl
           exact norm_ (by simp only [putAll, Act.put, List.setIfInBounds_toArray, List.set_cons_zero, List.set_cons_succ]) (hCont (gb494) _ ⟨hHeld, bk, bk, bk, GW494.out, GE494.out, NB489_494.out, NB494_489.out, NB490_494.out, NB494_490.out, bz⟩)
         rintro gb494 w102 ⟨hS_, h0_, h1_, h2_, h3_, h4_, h5_, h6_, h7_, h8_, h9_⟩
         have n0_ : Aside0 (w102.heap[gb489]? = some (.cells #[.string a0_0, .int .i64 a0_1] 28 (0, 0))) := ⟨h0_⟩
         have n1_ : Aside0 (w102.heap[gb490]? = some (.cells #[.string (⟨#[]⟩ : ByteArray), .int .i64 0] 28 (0, 0))) := ⟨h1_⟩
         have n2_ : Aside0 (w102.heap[gb494]? = some (.cells #[.string (⟨#[]⟩ : ByteArray), .int .i64 0] 28 (0, 0))) := ⟨h2_⟩
         have n3_ : Aside0 (w.heap.size ≤ gb494) := ⟨h3_⟩
         have n4_ : Aside0 (w.heap.size ≤ gb494) := ⟨h4_⟩
         have n5_ : Aside0 (gb489 ≠ gb494) := ⟨h5_⟩
         have n6_ : Aside0 (gb494 ≠ gb489) := ⟨h6_⟩
         have n7_ : Aside0 (gb490 ≠ gb494) := ⟨h7_⟩
         have n8_ : Aside0 (gb494 ≠ gb490) := ⟨h8_⟩
         have n9_ : Aside0 (Below w.heap.size w w102) := ⟨h9_⟩
         clear BK489
         clear BK490
         clear HB
         clear h0_ h1_ h2_ h3_ h4_ h5_ h6_ h7_ h8_ h9_
         have BK489 := n0_
         have BK490 := n1_
         have BK494 := n2_
         have GW494 := n3_
         have GE494 := n4_
         have NB489_494 := n5_
         have NB494_489 := n6_
         have NB490_494 := n7_
         have NB494_490 := n8_
         have HB := n9_
         clear n0_ n1_ n2_ n3_ n4_ n5_ n6_ n7_ n8_ n9_
         have hHeld : w102.cell? ⟨gb489, 0, none⟩ = some (.string a0_0) ∧ w102.cell? ⟨gb489, 1, none⟩ = some (.int .i64 a0_1) := hS_
         refine norm_ (a' := ?_) ?_ ?_
         rotate_left
         ·simp only [putAll, Act.put, List.setIfInBounds_toArray, List.set_cons_zero, List.set_cons_succ]
          rfl
         refine one_ (i := 9) (N := none) #[true, true, true, true, true, true, true, true, true, true] rfl rfl (one_of HT_.out (by kernel_rfl)) (by decide) (fun K hK => ?_)
         have hs103 : w102.cell? ⟨gb494, 0, none⟩ = some (.string (⟨#[]⟩ : ByteArray)) := (blk_cell BK494.out 0).trans rfl
         have hfs103 := blk_frozen BK494.out 0
         have hns103_0 := NB489_494.out
         have hns103_1 := NB490_494.out
         have hms103_0 := NB494_489.out
         have hms103_1 := NB494_490.out
         have hs104 : w102.cell? ⟨gb494, 1, none⟩ = some (.int .i64 0) := (blk_cell BK494.out 1).trans rfl
         have hfs104 := blk_frozen BK494.out 1
         have hns104_0 := NB489_494.out
         have hns104_1 := NB490_494.out
         have hms104_0 := NB494_489.out
         have hms104_1 := NB494_490.out
         refine skip_ (w1 := ?_) (by rfl) rfl ?_ ?_
         rotate_left
         ·go_simp
          rfl
         refine hK.out _ _ ⟨((cell_far (p := ⟨gb494, _, none⟩) NB489_494.out _).trans (((cell_far (p := ⟨gb494, _, none⟩) NB489_494.out _).trans (hHeld.1)))), ((cell_far (p := ⟨gb494, _, none⟩) NB489_494.out _).trans (((cell_far (p := ⟨gb494, _, none⟩) NB489_494.out _).trans (hHeld.2))))⟩ (fun hHeld => ?_)
         clear hK K
         refine done_ (done_of HT_.out (by kernel_rfl)) ?_
         have hnb105 := NB494_489.out
         have hnc105 := NB489_494.out
         have hnb106 := NB494_490.out
         have hnc106 := NB490_494.out
         obtain ⟨hcz107_0, hcz107_1, hfz107_0, hfz107_1⟩ := cz2 (W := w102) BK494
         try go_wp2_with (first | ((with_reducible refine gate_callee (f := 47) rfl ?_); refine goesL_ (some 38) rfl rfl Tryd.func47 (by kernel_rfl) rfl #[.agg #[.string t492, .int .i64 t493], .agg #[.string (⟨#[49]⟩ : ByteArray), .int .i64 (wrap64 (a1 + 1))]] rfl lz ?_; (with_reducible refine (platenref04_Sum.calls kj2 t492 t493 (⟨#[49]⟩ : ByteArray) (wrap64 (a1 + 1)) t495 t496 _ A27.out).mono ?_); rintro e w108 ⟨rfl, hb⟩; refine ⟨_, rfl, ?_⟩; replace BK489 := kN (g := gb489) (cs := #[.string a0_0, .int .i64 a0_1]) hb bk; replace BK490 := kN (g := gb490) (cs := #[.string (⟨#[]⟩ : ByteArray), .int .i64 0]) hb bk; replace BK494 := kN (g := gb494) (cs := #[.string t492, .int .i64 t493]) hb bk; replace HB := bN bz hb; (try clear hb); (try clear hb2); (try clear hk); (try clear hi)) | ((with_reducible refine gate_dst (N := 7) rfl ?_); refine box_event rfl (N := 7) rfl (cs := #[.string (⟨#[]⟩ : ByteArray), .int .i64 0]) (t := 28) gz ?_; intro gb497 hg w109 hbox hb; have GW497 := gN bz hg; have GE497 := gN bz hg; have NB489_497 := lN (g := gb489) (cs := #[.string a0_0, .int .i64 a0_1]) hg bk; have NB497_489 := rN (g := gb489) (cs := #[.string a0_0, .int .i64 a0_1]) hg bk; have NB490_497 := lN (g := gb490) (cs := #[.string (⟨#[]⟩ : ByteArray), .int .i64 0]) hg bk; have NB497_490 := rN (g := gb490) (cs := #[.string (⟨#[]⟩ : ByteArray), .int .i64 0]) hg bk; have NB494_497 := lN (g := gb494) (cs := #[.string t492, .int .i64 t493]) hg bk; have NB497_494 := rN (g := gb494) (cs := #[.string t492, .int .i64 t493]) hg bk; replace BK489 := kN (g := gb489) (cs := #[.string a0_0, .int .i64 a0_1]) hb bk; replace BK490 := kN (g := gb490) (cs := #[.string (⟨#[]⟩ : ByteArray), .int .i64 0]) hb bk; replace BK494 := kN (g := gb494) (cs := #[.string t492, .int .i64 t493]) hb bk; have BK497 := Aside0.mk hbox; replace HB := bN bz hb; clear hb hbox hg; have hnb110 := NB497_489.out; have hnc110 := NB489_497.out; have hnb111 := NB497_490.out; have hnc111 := NB490_497.out; have hnb112 := NB497_494.out; have hnc112 := NB494_497.out; obtain ⟨hcz113_0, hcz113_1, hfz113_0, hfz113_1⟩ := cz2 (W := w109) BK497))
         have n0_ : Aside0 (((w109.setCell ⟨gb497, 0, none⟩ (.string t495)).setCell ⟨gb497, 1, none⟩ (.int .i64 t496)).heap[gb489]? = some (.cells #[.string a0_0, .int .i64 a0_1] 28 (0, 0))) := ⟨bk⟩
         have n1_ : Aside0 (((w109.setCell ⟨gb497, 0, none⟩ (.string t495)).setCell ⟨gb497, 1, none⟩ (.int .i64 t496)).heap[gb490]? = some (.cells #[.string (⟨#[]⟩ : ByteArray), .int .i64 0] 28 (0, 0))) := ⟨bk⟩
         have n2_ : Aside0 (((w109.setCell ⟨gb497, 0, none⟩ (.string t495)).setCell ⟨gb497, 1, none⟩ (.int .i64 t496)).heap[gb494]? = some (.cells #[.string t492, .int .i64 t493] 28 (0, 0))) := ⟨bk⟩
         have n3_ : Aside0 (((w109.setCell ⟨gb497, 0, none⟩ (.string t495)).setCell ⟨gb497, 1, none⟩ (.int .i64 t496)).heap[gb497]? = some (.cells #[.string t495, .int .i64 t496] 28 (0, 0))) := ⟨bk⟩
         have n4_ : Aside0 (Below w.heap.size w ((w109.setCell ⟨gb497, 0, none⟩ (.string t495)).setCell ⟨gb497, 1, none⟩ (.int .i64 t496))) := ⟨bz⟩
         (try clear BK489)
         (try clear BK490)
         (try clear BK494)
         (try clear BK497)
         (try clear HB)
         generalize ((w109.setCell ⟨gb497, 0, none⟩ (.string t495)).setCell ⟨gb497, 1, none⟩ (.int .i64 t496)) = w114 at n0_ n1_ n2_ n3_ n4_ ⊢
         have BK489 := n0_
         have BK490 := n1_
         have BK494 := n2_
         have BK497 := n3_
         have HB := n4_
         clear n0_ n1_ n2_ n3_ n4_
         replace BK489 := Aside0.mk (blk_drew BK489.out)
         replace BK490 := Aside0.mk (blk_drew BK490.out)
         replace BK494 := Aside0.mk (blk_drew BK494.out)
         replace BK497 := Aside0.mk (blk_drew BK497.out)
         replace HB := Aside0.mk (below_drew1 HB.out)
         refine start_ (n := 8) (S := fun w' => w'.cell? ⟨gb489, 0, none⟩ = some (.string a0_0) ∧ w'.cell? ⟨gb489, 1, none⟩ = some (.int .i64 a0_1) ∧ w'.cell? ⟨gb494, 0, none⟩ = some (.string t492) ∧ w'.cell? ⟨gb494, 1, none⟩ = some (.int .i64 t493) ∧ w'.cell? ⟨gb497, 0, none⟩ = some (.string t495) ∧ w'.cell? ⟨gb497, 1, none⟩ = some (.int .i64 t496)) (ds := []) #[false, false, false, false, false, false, false, false] (by kernel_rfl) rfl rfl ⟨(blk_cell BK489.out 0).trans rfl, (blk_cell BK489.out 1).trans rfl, (blk_cell BK494.out 0).trans rfl, (blk_cell BK494.out 1).trans rfl, (blk_cell BK497.out 0).trans rfl, (blk_cell BK497.out 1).trans rfl⟩ (fun hHeld => ?_); refine with_tabW platenref04_Nearest.tab8 platenref04_Nearest.bits8 (fun HT_ HW_ => ?_)
         generalize w114.drew = w115 at BK489 BK490 BK494 BK497 HB hHeld ⊢
         refine take_ (i := 0) (N := some 39) (v := ?_) (a' := ?_) #[true, false, false, false, false, false, false, false] rfl rfl (take_ofW HT_.out HW_.out (by kernel_rfl)) (fun _ _ _ h => h) (Or.inl ⟨by rfl, ?_⟩) hHeld ?_ ?_
         rotate_left
         ·rintro w' ⟨s0, s1, s2, s3, s4, s5⟩
          go_simp
          with_reducible rfl
         rotate_left
         ·simp only [Act.put, List.setIfInBounds_toArray, List.set_cons_zero, List.set_cons_succ, i64_w, i32_w]
          rfl
         refine take_ (i := 1) (N := some 40) (v := ?_) (a' := ?_) #[true, true, false, false, false, false, false, false] rfl rfl (take_ofW HT_.out HW_.out (by kernel_rfl)) (fun _ _ _ h => h) (Or.inl ⟨by rfl, ?_⟩) hHeld ?_ ?_
         rotate_left
         ·rintro w' ⟨s0, s1, s2, s3, s4, s5⟩
          go_simp
          with_reducible rfl
         rotate_left
         ·simp only [Act.put, List.setIfInBounds_toArray, List.set_cons_zero, List.set_cons_succ, i64_w, i32_w]
          rfl
         refine take_ (i := 3) (N := some 42) (v := ?_) (a' := ?_) #[true, true, false, true, false, false, false, false] rfl rfl (take_ofW HT_.out HW_.out (by kernel_rfl)) (fun _ _ _ h => h) (Or.inl ⟨by rfl, ?_⟩) hHeld ?_ ?_
         rotate_left
         ·rintro w' ⟨s0, s1, s2, s3, s4, s5⟩
          go_simp
          with_reducible rfl
         rotate_left
         ·simp only [Act.put, List.setIfInBounds_toArray, List.set_cons_zero, List.set_cons_succ, i64_w, i32_w]
          rfl
         refine take_ (i := 4) (N := some 43) (v := ?_) (a' := ?_) #[true, true, false, true, true, false, false, false] rfl rfl (take_ofW HT_.out HW_.out (by kernel_rfl)) (fun _ _ _ h => h) (Or.inl ⟨by rfl, ?_⟩) hHeld ?_ ?_
         rotate_left
         ·rintro w' ⟨s0, s1, s2, s3, s4, s5⟩
          go_simp
          with_reducible rfl
         rotate_left
         ·simp only [Act.put, List.setIfInBounds_toArray, List.set_cons_zero, List.set_cons_succ, i64_w, i32_w]
          rfl
         refine one_ (i := 2) (N := some 41) #[true, true, true, true, true, false, false, false] rfl rfl (one_of HT_.out (by kernel_rfl)) (by decide) (fun K hK => ?_)
         refine goes_ Tryd.func47 (by kernel_rfl) rfl #[.agg #[.string a0_0, .int .i64 a0_1], .agg #[.string a0_0, .int .i64 a0_1]] (by rfl) rfl rfl lz ?_
         with_reducible refine (platenref04_Sum.calls kj2 a0_0 a0_1 a0_0 a0_1 t498 t499 _ A28.out).mono ?_
         rintro e w116 ⟨rfl, hb⟩
         refine ⟨_, rfl, ?_⟩
         replace BK489 := Aside0.mk (blk_below (g := gb489) (o := .cells #[.string a0_0, .int .i64 a0_1] 28 (0, 0)) bk hb)
         replace BK490 := Aside0.mk (blk_below (g := gb490) (o := .cells #[.string (⟨#[]⟩ : ByteArray), .int .i64 0] 28 (0, 0)) bk hb)
         replace BK494 := Aside0.mk (blk_below (g := gb494) (o := .cells #[.string t492, .int .i64 t493] 28 (0, 0)) bk hb)
         replace BK497 := Aside0.mk (blk_below (g := gb497) (o := .cells #[.string t495, .int .i64 t496] 28 (0, 0)) bk hb)
         replace HB := Aside0.mk (below_step bz hb)
         (try clear hb)
         (try clear hb2)
         (try clear hk)
         (try clear hi)
         refine hK.out _ _ ⟨(blk_cell BK489.out 0).trans rfl, (blk_cell BK489.out 1).trans rfl, (blk_cell BK494.out 0).trans rfl, (blk_cell BK494.out 1).trans rfl, (blk_cell BK497.out 0).trans rfl, (blk_cell BK497.out 1).trans rfl⟩ (fun hHeld => ?_)
         clear hK K
         refine norm_ (a' := ?_) ?_ ?_
         rotate_left
         ·show Act.put _ (some 41) _ = _
          simp only [Act.put, List.setIfInBounds_toArray, List.set_cons_zero, List.set_cons_succ, i64_w, i32_w]
          rfl
         refine one_ (i := 5) (N := some 44) #[true, true, true, true, true, true, false, false] rfl rfl (one_of HT_.out (by kernel_rfl)) (by decide) (fun K hK => ?_)
         refine goes_ Tryd.func47 (by kernel_rfl) rfl #[.agg #[.string t492, .int .i64 t493], .agg #[.string t495, .int .i64 t496]] (by rfl) rfl rfl lz ?_
         with_reducible refine (platenref04_Sum.calls kj2 t492 t493 t495 t496 t500 t501 _ A29.out).mono ?_
         rintro e w117 ⟨rfl, hb⟩
         refine ⟨_, rfl, ?_⟩
         replace BK489 := Aside0.mk (blk_below (g := gb489) (o := .cells #[.string a0_0, .int .i64 a0_1] 28 (0, 0)) bk hb)
         replace BK490 := Aside0.mk (blk_below (g := gb490) (o := .cells #[.string (⟨#[]⟩ : ByteArray), .int .i64 0] 28 (0, 0)) bk hb)
         replace BK494 := Aside0.mk (blk_below (g := gb494) (o := .cells #[.string t492, .int .i64 t493] 28 (0, 0)) bk hb)
         replace BK497 := Aside0.mk (blk_below (g := gb497) (o := .cells #[.string t495, .int .i64 t496] 28 (0, 0)) bk hb)
         replace HB := Aside0.mk (below_step bz hb)
         (try clear hb)
         (try clear hb2)
         (try clear hk)
         (try clear hi)
         refine hK.out _ _ ⟨(blk_cell BK489.out 0).trans rfl, (blk_cell BK489.out 1).trans rfl, (blk_cell BK494.out 0).trans rfl, (blk_cell BK494.out 1).trans rfl, (blk_cell BK497.out 0).trans rfl, (blk_cell BK497.out 1).trans rfl⟩ (fun hHeld => ?_)
         clear hK K
         refine norm_ (a' := ?_) ?_ ?_
         rotate_left
         ·show Act.put _ (some 44) _ = _
          simp only [Act.put, List.setIfInBounds_toArray, List.set_cons_zero, List.set_cons_succ, i64_w, i32_w]
          rfl
         refine one_ (i := 6) (N := some 45) #[true, true, true, true, true, true, true, false] rfl rfl (one_of HT_.out (by kernel_rfl)) (by decide) (fun K hK => ?_)
         refine goes_ Tryd.func60 (by kernel_rfl) rfl #[.agg #[.string t498, .int .i64 t499], .agg #[.string t500, .int .i64 t501]] (by rfl) rfl rfl lz ?_
         with_reducible refine (platenref04_Compare.calls kj2 t498 t499 t500 t501 t502 _ A30.out).mono ?_
         rintro e w118 ⟨rfl, hb⟩
         refine ⟨_, rfl, ?_⟩
         replace BK489 := Aside0.mk (blk_below (g := gb489) (o := .cells #[.string a0_0, .int .i64 a0_1] 28 (0, 0)) bk hb)
         replace BK490 := Aside0.mk (blk_below (g := gb490) (o := .cells #[.string (⟨#[]⟩ : ByteArray), .int .i64 0] 28 (0, 0)) bk hb)
         replace BK494 := Aside0.mk (blk_below (g := gb494) (o := .cells #[.string t492, .int .i64 t493] 28 (0, 0)) bk hb)
         replace BK497 := Aside0.mk (blk_below (g := gb497) (o := .cells #[.string t495, .int .i64 t496] 28 (0, 0)) bk hb)
         replace HB := Aside0.mk (below_step bz hb)
         (try clear hb)
         (try clear hb2)
         (try clear hk)
         (try clear hi)
         refine hK.out _ _ ⟨(blk_cell BK489.out 0).trans rfl, (blk_cell BK489.out 1).trans rfl, (blk_cell BK494.out 0).trans rfl, (blk_cell BK494.out 1).trans rfl, (blk_cell BK497.out 0).trans rfl, (blk_cell BK497.out 1).trans rfl⟩ (fun hHeld => ?_)
         clear hK K
         refine norm_ (a' := ?_) ?_ ?_
         rotate_left
         ·show Act.put _ (some 45) _ = _
          simp only [Act.put, List.setIfInBounds_toArray, List.set_cons_zero, List.set_cons_succ, i64_w, i32_w]
          rfl
         refine pure_ (i := 7) (N := some 8) (v := ?_) (a' := ?_) #[true, true, true, true, true, true, true, true] rfl rfl (any_of HT_.out (by kernel_rfl)) (fun _ _ _ h => h) (Or.inl ⟨by rfl, ?_⟩) ?_ ?_
         rotate_left
         ·intro w'
          go_simp
          with_reducible rfl
         rotate_left
         ·simp only [Act.put, List.setIfInBounds_toArray, List.set_cons_zero, List.set_cons_succ, i64_w, i32_w]
          rfl
         refine done_ (done_of HT_.out (by kernel_rfl)) ?_
         obtain ⟨hcz119_0, hcz119_1, hfz119_0, hfz119_1⟩ := cz2 (W := w118) BK497
         obtain ⟨hcz120_0, hcz120_1, hfz120_0, hfz120_1⟩ := cz2 (W := w118) BK490
         try go_wp2
         refine bodyPost_ret (results_cell_row rfl _ _ gb490 28 #[.string t495, .int .i64 t496] (0, 0) _ rfl bk Tryd.underlying28 rfl (by kernel_rfl)) rfl ?_
         exact ⟨by first | rfl | (simp [errW_none, errW_some] <;> rfl) | (simp only [← hji23]; first | rfl | (simp [errW_none, errW_some] <;> rfl)) | (simp [*, errW_none, errW_some] <;> rfl), bz⟩
      ·rw [if_neg c25] at H
       exact absurd H (by simp)
     ·rw [if_neg c24] at H
      exact absurd H (by simp)
end Go.Proofs.YtmeapdchnnpceaaDoor.Fn
end
section
namespace Go.Proofs.YtmeapdchnnpceaaDoor.Fn
open Go.RowKit Go.Proofs.YtmeapdchnnpceaaDoorW.PrintWords Go.Proofs.YtmeapdchnnpceaaDoorW.PrintLast Go.Proofs.YtmeapdchnnpceaaDoorW.PrintMore
attribute [local go_sem] min2_int min_two
set_option linter.unusedVariables false
set_option linter.unusedSimpArgs false
theorem eqA28 (d : Nat) (w : World) (x0 y0 : ByteArray) (x1 y1 : Int) :
  (Op.equalIn (d + 2) 28 (.agg #[.string x0, .int .i64 x1]) (.agg #[.string y0, .int .i64 y1])).run Tryd.prog w = .ok (x0.toList == y0.toList && (x1 == y1)) w := by
 refine eqA_of Tryd.underlying28 (by kernel_rfl) ?_
 refine eqf_cons (by rfl) (by go_simp; rfl) (by go_simp; rfl) (by go_simp) ?_
 exact eqf_last (by rfl) (by go_simp; rfl) (by go_simp; rfl) (by go_simp)
end Go.Proofs.YtmeapdchnnpceaaDoor.Fn
end
section
namespace Go.Proofs.YtmeapdchnnpceaaDoor.Fn
open Go.RowKit Go.Proofs.YtmeapdchnnpceaaDoorW.PrintWords Go.Proofs.YtmeapdchnnpceaaDoorW.PrintLast Go.Proofs.YtmeapdchnnpceaaDoorW.PrintMore
attribute [local go_sem] min2_int min_two
set_option linter.unusedVariables false
set_option linter.unusedSimpArgs false
def platenref05_Value.f (k : Nat) (a0 : Int) (a1 : Int) : Option (ByteArray × Int) := (platenref05_Parts.f k a0 a1).bind fun bt458 => ((platenref04_Exact.f k bt458.2.1 bt458.2.2.1).bind fun bt462 => (some (bt462.1, bt462.2.1)))
set_option maxHeartbeats 8000000 in
set_option maxRecDepth 100000 in
theorem platenref05_Value.calls (k : Nat) (a0 : Int) (a1 : Int) (r1 : ByteArray) (r2 : Int) (w : World) (h : platenref05_Value.f k a0 a1 = some (r1, r2)) :
  Calls Tryd.prog 45 #[.int .u64 a0, .int .i64 a1] w fun e w' => e = .returned (.agg #[.string r1, .int .i64 r2]) ∧ Below w.heap.size w w' := by
 have hu28 := Tryd.underlying28
 have HB := Aside0.mk (Below.refl w.heap.size w)
 have H : ((platenref05_Parts.f k a0 a1).bind fun bt458 => ((platenref04_Exact.f k bt458.2.1 bt458.2.2.1).bind fun bt462 => (some (bt462.1, bt462.2.1)))) = some (r1, r2) := h
 clear h
 replace H := bs H
 obtain ⟨⟨t458, t459, t460, t461⟩, A3, H⟩ := H
 dsimp only at H
 replace H := bs H
 obtain ⟨⟨t462, t463, t464⟩, A4, H⟩ := H
 dsimp only at H
 simp only [Option.some.injEq, Prod.mk.injEq] at H
 obtain ⟨rfl, rfl⟩ := H
 go_enter Tryd.func45, Tryd.ntmps45
 go_wp2_with (first | ((with_reducible refine gate_dst (N := 4) rfl ?_); refine box_event rfl (N := 4) rfl (cs := #[.string (⟨#[]⟩ : ByteArray), .int .i64 0]) (t := 28) gz ?_; intro gb457 hg w5 hbox hb; have GE457 := gN bz hg; have BK457 := Aside0.mk hbox; replace HB := bN bz hb; clear hb hbox hg) | ((with_reducible refine gate_callee (f := 14) rfl ?_); refine goesL_ (some 14) rfl rfl Tryd.func14 (by kernel_rfl) rfl #[.int .u64 a0, .int .i64 a1] rfl lz ?_; (with_reducible refine (platenref05_Parts.calls k a0 a1 t458 t459 t460 t461 _ A3.out).mono ?_); rintro e w' ⟨rfl, ⟨nd, rfl⟩⟩; refine ⟨_, rfl, ?_⟩; (try (rw [drewN_self w5]; generalize hq_ : World.drewN w5 _ = w5; have n0_ : Aside0 (w5.heap[gb457]? = some (.cells #[.string (⟨#[]⟩ : ByteArray), .int .i64 0] 28 (0, 0))) := ⟨by rw [← hq_]; exact bk⟩; have n1_ : Aside0 (Below w.heap.size w w5) := ⟨by rw [← hq_]; exact bz⟩; clear BK457 HB hq_; have BK457 := n0_; have HB := n1_; clear n0_ n1_))) | ((with_reducible refine gate_callee (f := 56) rfl ?_); refine goesL_ (some 22) rfl rfl Tryd.func56 (by kernel_rfl) rfl #[.int .u64 t459, .int .i64 t460] rfl lz ?_; (with_reducible refine (platenref04_Exact.calls k t459 t460 t462 t463 t464 _ A4.out).mono ?_); rintro e w6 ⟨rfl, hb⟩; refine ⟨_, rfl, ?_⟩; replace BK457 := kN (g := gb457) (cs := #[.string (⟨#[]⟩ : ByteArray), .int .i64 0]) hb bk; replace HB := bN bz hb; (try clear hb); (try clear hb2); (try clear hk); (try clear hi)) | ((with_reducible refine gate_dst (N := 9) rfl ?_); refine box_event rfl (N := 9) rfl (cs := #[.string (⟨#[]⟩ : ByteArray), .int .i64 0]) (t := 28) gz ?_; intro gb465 hg w7 hbox hb; have GE465 := gN bz hg; have NB457_465 := lN (g := gb457) (cs := #[.string (⟨#[]⟩ : ByteArray), .int .i64 0]) hg bk; have NB465_457 := rN (g := gb457) (cs := #[.string (⟨#[]⟩ : ByteArray), .int .i64 0]) hg bk; replace BK457 := kN (g := gb457) (cs := #[.string (⟨#[]⟩ : ByteArray), .int .i64 0]) hb bk; have BK465 := Aside0.mk hbox; replace HB := bN bz hb; clear hb hbox hg; have hnb8 := NB465_457.out; have hnc8 := NB457_465.out; obtain ⟨hcz9_0, hcz9_1, hfz9_0, hfz9_1⟩ := cz2 (W := w7) BK465; obtain ⟨hcz10_0, hcz10_1, hfz10_0, hfz10_1⟩ := cz2 (W := w7) BK457))
 refine bodyPost_ret (results_cell_row rfl _ _ gb457 28 #[.string t462, .int .i64 t463] (0, 0) _ rfl bk Tryd.underlying28 rfl (by kernel_rfl)) rfl ?_
 exact ⟨ez, bz⟩
end Go.Proofs.YtmeapdchnnpceaaDoor.Fn
end
