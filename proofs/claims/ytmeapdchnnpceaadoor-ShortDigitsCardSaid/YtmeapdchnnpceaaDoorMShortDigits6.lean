/- The law ShortDigits: the walks through its functions and its plain law (part 6). Own texts and the kit's printed words for this seat, without what the law does not use: put together by merge.py (of this work). -/
import Derived.Test.YtmeapdchnnpceaaDoorMShortDigits5
section
namespace Go.Proofs.YtmeapdchnnpceaaDoor.Fn
open Go.RowKit Go.Proofs.YtmeapdchnnpceaaDoorW.PrintWords Go.Proofs.YtmeapdchnnpceaaDoorW.PrintLast Go.Proofs.YtmeapdchnnpceaaDoorW.PrintMore
attribute [local go_sem] min2_int min_two
set_option linter.unusedVariables false
set_option linter.unusedSimpArgs false
attribute [local go_sem high] eqA28
mutual
def platenref05_Shortest.l0 : Nat → Int → Int → Int → ByteArray → Int → Option (ByteArray × Int × Int)
 | 0, _, _, _, _, _ => none
 | k + 1, x1, x10, x12, x514000, x514001 => if x12 < (x514000.size : Int) then (if 0 ≤ x12 then (if x12 ≤ (x514000.size : Int) then ((platenref04_In.f k (x514000.extract 0 (x12 : Int).toNat) x514001).bind fun bt514 => ((platenref04_Sum.f k bt514.1 bt514.2 (⟨#[49]⟩ : ByteArray) (wrap64 ((wrap64 (x514001 - x12)) + 1))).bind fun bt517 => ((platenref05_Read.f k bt514.1 bt514.2 x1).bind fun bt520 => ((platenref05_Read.f k bt517.1 bt517.2 x1).bind fun bt522 => (if bt520.1 = x10 then (platenref05_Shortest.j1 k x1 x10 x12 bt520.1 bt522.1 false x514000 x514001 bt514.1 bt514.2 bt517.1 bt517.2) else (platenref05_Shortest.j1 k x1 x10 x12 bt520.1 bt522.1 (bt522.1 != x10) x514000 x514001 bt514.1 bt514.2 bt517.1 bt517.2)))))) else (none)) else (none)) else (some (x514000, x514001, 0))
def platenref05_Shortest.j1 : Nat → Int → Int → Int → Int → Int → Bool → ByteArray → Int → ByteArray → Int → ByteArray → Int → Option (ByteArray × Int × Int)
 | 0, _, _, _, _, _, _, _, _, _, _, _, _ => none
 | k + 1, x1, x10, x12, x15, x17, x82, x514000, x514001, x517000, x517001, x520000, x520001 => if x82 = true then (platenref05_Shortest.l0 k x1 x10 (wrap64 (x12 + 1)) x514000 x514001) else (if x15 = x10 then (if x17 = x10 then ((platenref04_Nearest.f k x514000 x514001 (wrap64 (x514001 - x12))).bind fun bt524 => (if (bt524.1.toList == x517000.toList && (bt524.2 == x517001)) = true then (some (x517000, x517001, 0)) else (some (x520000, x520001, 0)))) else (some (x517000, x517001, 0))) else (some (x520000, x520001, 0)))
end
def platenref05_Shortest.f (k : Nat) (a0 : Int) (a1 : Int) : Option (ByteArray × Int × Int) := (platenref05_Sized.f a1).bind fun t505 => (if t505 = true then ((platenref05_Parts.f k a0 a1).bind fun bt506 => (if bt506.2.2.2 = 0 then ((platenref05_Bare.f k a0 a1).bind fun t510 => ((platenref05_Value.f k a0 a1).bind fun bt511 => (platenref05_Shortest.l0 k a1 t510 1 bt511.1 bt511.2))) else (some ((⟨#[]⟩ : ByteArray), 0, 1)))) else (some ((⟨#[]⟩ : ByteArray), 0, 1)))
def platenref05_Shortest.T11 : Bool × List (List Nat × List Nat) := (true, [([], []), ([0], [0]), ([], []), ([1, 2], [1, 2]), ([], []), ([4], [4]), ([3, 5], [3, 5]), ([6], [6]), ([], []), ([8, 7, 7, 0, 1, 2, 3, 4, 5, 6, 7, 8], [7, 8])])
def platenref05_Shortest.B11 : List Nat := [0, 1, 0, 7, 0, 16, 63, 127, 0, 511]
theorem platenref05_Shortest.tab11 : rtab .any (opsOf Tryd.f19 11) = platenref05_Shortest.T11 := by kernel_rfl
theorem platenref05_Shortest.bits11 : waitsOk platenref05_Shortest.T11.2 platenref05_Shortest.B11 = true := by kernel_rfl
def platenref05_Shortest.T16 : Bool × List (List Nat × List Nat) := (true, [([], []), ([], []), ([0, 1], [0, 1]), ([2], [2]), ([3], [3]), ([3], [3]), ([4, 5, 3], [3, 4, 5]), ([6, 3, 3], [3, 6]), ([7], [7]), ([7], [7]), ([9, 7], [7, 9]), ([7], [7]), ([10, 11, 7], [7, 10, 11]), ([8, 12, 7, 7], [7, 8, 12]), ([7], [7]), ([13, 14, 7], [7, 13, 14]), ([7, 15, 3], [3, 7, 15]), ([3, 16], [3, 16])])
def platenref05_Shortest.B16 : List Nat := [0, 0, 3, 7, 15, 15, 63, 127, 255, 255, 767, 255, 3839, 8191, 255, 32767, 65535, 131071]
theorem platenref05_Shortest.tab16 : rtab .any (opsOf Tryd.f19 16) = platenref05_Shortest.T16 := by kernel_rfl
theorem platenref05_Shortest.bits16 : waitsOk platenref05_Shortest.T16.2 platenref05_Shortest.B16 = true := by kernel_rfl
set_option maxHeartbeats 8000000 in
set_option maxRecDepth 100000 in
theorem platenref05_Shortest.calls (k : Nat) (a0 : Int) (a1 : Int) (r1 : ByteArray) (r2 : Int) (r3 : Int) (w : World) (h : platenref05_Shortest.f k a0 a1 = some (r1, r2, r3)) :
  Calls Tryd.prog 19 #[.int .u64 a0, .int .i64 a1] w fun e w' => e = .returned (.tuple #[.agg #[.string r1, .int .i64 r2], .int .i64 r3]) ∧ Below w.heap.size w w' := by
 have hu28 := Tryd.underlying28
 have HB := Aside0.mk (Below.refl w.heap.size w)
 have H : ((platenref05_Sized.f a1).bind fun t505 => (if t505 = true then ((platenref05_Parts.f k a0 a1).bind fun bt506 => (if bt506.2.2.2 = 0 then ((platenref05_Bare.f k a0 a1).bind fun t510 => ((platenref05_Value.f k a0 a1).bind fun bt511 => (platenref05_Shortest.l0 k a1 t510 1 bt511.1 bt511.2))) else (some ((⟨#[]⟩ : ByteArray), 0, 1)))) else (some ((⟨#[]⟩ : ByteArray), 0, 1)))) = some (r1, r2, r3) := h
 clear h
 replace H := bs H
 obtain ⟨t505, A3, H⟩ := H
 go_enter Tryd.func19, Tryd.ntmps19
 go_upto_if 21 with (first | ((with_reducible refine gate_dst (N := 4) rfl ?_); refine box_event rfl (N := 4) rfl (cs := #[.string (⟨#[]⟩ : ByteArray), .int .i64 0]) (t := 28) gz ?_; intro gb504 hg w4 hbox hb; have GE504 := gN bz hg; have BK504 := Aside0.mk hbox; replace HB := bN bz hb; clear hb hbox hg) | ((with_reducible refine gate_callee (f := 29) rfl ?_); refine goesL_ (some 20) rfl rfl Tryd.func29 (by kernel_rfl) rfl #[.int .i64 a1] rfl lz ?_; (with_reducible refine (platenref05_Sized.calls a1 t505 _ A3.out).mono ?_); rintro e w' ⟨rfl, ⟨nd, rfl⟩⟩; refine ⟨_, rfl, ?_⟩))
 (try simp only [Act.put, List.setIfInBounds_toArray, List.set_cons_zero, List.set_cons_succ])
 by_cases c5 : t505 = true
 ·subst c5
  replace H := hT H
  replace H := bs H
  obtain ⟨⟨t506, t507, t508, t509⟩, A6, H⟩ := H
  dsimp only at H
  go_upto_if 32 with (first | ((with_reducible refine gate_callee (f := 14) rfl ?_); refine goesL_ (some 26) rfl rfl Tryd.func14 (by kernel_rfl) rfl #[.int .u64 a0, .int .i64 a1] rfl lz ?_; (with_reducible refine (platenref05_Parts.calls k a0 a1 t506 t507 t508 t509 _ A6.out).mono ?_); rintro e w' ⟨rfl, ⟨nd, rfl⟩⟩; refine ⟨_, rfl, ?_⟩))
  (try simp only [Act.put, List.setIfInBounds_toArray, List.set_cons_zero, List.set_cons_succ])
  by_cases c7 : t509 = 0
  ·rw [if_pos c7] at H
   obtain ⟨c7b0, c7b1⟩ := eT c7
   clear c7
   try first | rw [c7b0] | rw [c7b1]
   replace H := bs H
   obtain ⟨t510, A8, H⟩ := H
   replace H := bs H
   obtain ⟨⟨t511, t512⟩, A9, H⟩ := H
   dsimp only at H
   have H' := Aside0.mk H
   clear H
   go_wp2_with (first | ((with_reducible refine gate_callee (f := 44) rfl ?_); refine goesL_ (some 36) rfl rfl Tryd.func44 (by kernel_rfl) rfl #[.int .u64 a0, .int .i64 a1] rfl lz ?_; (with_reducible refine (platenref05_Bare.calls k a0 a1 t510 _ A8.out).mono ?_); rintro e w' ⟨rfl, ⟨nd, rfl⟩⟩; refine ⟨_, rfl, ?_⟩; (try (rw [drewN_self w4]; generalize hq_ : World.drewN w4 _ = w4; have n0_ : Aside0 (w4.heap[gb504]? = some (.cells #[.string (⟨#[]⟩ : ByteArray), .int .i64 0] 28 (0, 0))) := ⟨by rw [← hq_]; exact bk⟩; have n1_ : Aside0 (Below w.heap.size w w4) := ⟨by rw [← hq_]; exact bz⟩; clear BK504 HB hq_; have BK504 := n0_; have HB := n1_; clear n0_ n1_))) | ((with_reducible refine gate_callee (f := 45) rfl ?_); refine goesL_ (some 39) rfl rfl Tryd.func45 (by kernel_rfl) rfl #[.int .u64 a0, .int .i64 a1] rfl lz ?_; (with_reducible refine (platenref05_Value.calls k a0 a1 t511 t512 _ A9.out).mono ?_); rintro e w10 ⟨rfl, hb⟩; refine ⟨_, rfl, ?_⟩; replace BK504 := kN (g := gb504) (cs := #[.string (⟨#[]⟩ : ByteArray), .int .i64 0]) hb bk; replace HB := bN bz hb; (try clear hb); (try clear hb2); (try clear hk); (try clear hi)) | ((with_reducible refine gate_dst (N := 11) rfl ?_); refine box_event rfl (N := 11) rfl (cs := #[.string (⟨#[]⟩ : ByteArray), .int .i64 0]) (t := 28) gz ?_; intro gb513 hg w11 hbox hb; have GE513 := gN bz hg; have NB504_513 := lN (g := gb504) (cs := #[.string (⟨#[]⟩ : ByteArray), .int .i64 0]) hg bk; have NB513_504 := rN (g := gb504) (cs := #[.string (⟨#[]⟩ : ByteArray), .int .i64 0]) hg bk; replace BK504 := kN (g := gb504) (cs := #[.string (⟨#[]⟩ : ByteArray), .int .i64 0]) hb bk; have BK513 := Aside0.mk hbox; replace HB := bN bz hb; clear hb hbox hg; have hnb12 := NB513_504.out; have hnc12 := NB504_513.out; obtain ⟨hcz13_0, hcz13_1, hfz13_0, hfz13_1⟩ := cz2 (W := w11) BK513))
   go_loopg [12] k (fun kq v12 w' => ∃ (x12_1 : Int) (x505000_1 : ByteArray) (x505001_1 : Int), v12 = .int .i64 x12_1 ∧ Aside0 (platenref05_Shortest.l0 kq a1 t510 x12_1 t511 t512 = some (r1, r2, r3)) ∧ Aside0 (kq ≤ k) ∧ Aside0 (w'.heap[gb504]? = some (.cells #[.string x505000_1, .int .i64 x505001_1] 28 (0, 0))) ∧ Aside0 (w'.heap[gb513]? = some (.cells #[.string t511, .int .i64 t512] 28 (0, 0))) ∧ Aside0 (Below w.heap.size w w'))
   case atStart => exact ⟨(1), ((⟨#[]⟩ : ByteArray)), (0), rz, H', ⟨Nat.le_refl _⟩, ⟨bk⟩, ⟨bk⟩, ⟨bz⟩⟩
   case round =>
    clear H'
    try clear c5
    try clear c7
    try clear c7b0
    try clear c7b1
    try clear hcz13_0 hcz13_1 hfz13_0 hfz13_1
    obtain ⟨x12_1, x505000_1, x505001_1, rfl, HA, HK1, BK504, BK513, HB⟩ := hrel
    cases gk with
    | zero => exact absurd HA.out (by simp [platenref05_Shortest.l0])
    | succ k1 =>
     have H := HA.out
     clear HA
     simp only [platenref05_Shortest.l0] at H
     by_cases c14 : x12_1 < (t511.size : Int)
     ·rw [if_pos c14] at H
      have c14b0 := decide_eq_true c14
      clear c14
      by_cases c15 : 0 ≤ x12_1
      ·rw [if_pos c15] at H
       have c15b0 := eq_true c15
       have c15b1 : decide (0 ≤ x12_1) = true := decide_eq_true c15
       clear c15
       by_cases c16 : x12_1 ≤ (t511.size : Int)
       ·rw [if_pos c16] at H
        have c16b0 := eq_true c16
        have c16b1 : decide (x12_1 ≤ (t511.size : Int)) = true := decide_eq_true c16
        clear c16
        replace H := bs H
        obtain ⟨⟨t514, t515⟩, A17, H⟩ := H
        dsimp only at H
        replace H := bs H
        obtain ⟨⟨t517, t518⟩, A18, H⟩ := H
        dsimp only at H
        replace H := bs H
        obtain ⟨⟨t520, t521⟩, A19, H⟩ := H
        dsimp only at H
        replace H := bs H
        obtain ⟨⟨t522, t523⟩, A20, H⟩ := H
        dsimp only at H
        have HC21 := Aside0.mk H
        clear H
        have hnb22 := NB513_504.out
        have hnc22 := NB504_513.out
        obtain ⟨hcz23_0, hcz23_1, hfz23_0, hfz23_1⟩ := cz2 (W := wr) BK513
        try go_wp2
        replace BK504 := Aside0.mk (blk_drew BK504.out)
        replace BK513 := Aside0.mk (blk_drew BK513.out)
        replace HB := Aside0.mk (below_drew1 HB.out)
        refine start_ (n := 10) (S := fun w' => w'.cell? ⟨gb513, 0, none⟩ = some (.string t511) ∧ w'.cell? ⟨gb513, 1, none⟩ = some (.int .i64 t512)) (ds := []) #[false, false, false, false, false, false, false, false, false, false] (by kernel_rfl) rfl rfl ⟨(blk_cell BK513.out 0).trans rfl, (blk_cell BK513.out 1).trans rfl⟩ (fun hHeld => ?_); refine with_tabW platenref05_Shortest.tab11 platenref05_Shortest.bits11 (fun HT_ HW_ => ?_)
        generalize wr.drew = w24 at BK504 BK513 HB hHeld ⊢
        refine pure_ (i := 0) (N := some 47) (v := ?_) (a' := ?_) #[true, false, false, false, false, false, false, false, false, false] rfl rfl (any_of HT_.out (by kernel_rfl)) (fun _ _ _ h => h) (Or.inl ⟨by rfl, ?_⟩) ?_ ?_
        rotate_left
        ·intro w'
         go_simp
         with_reducible rfl
        rotate_left
        ·simp only [Act.put, List.setIfInBounds_toArray, List.set_cons_zero, List.set_cons_succ, i64_w, i32_w]
         rfl
        refine pure_ (i := 2) (N := some 49) (v := ?_) (a' := ?_) #[true, false, true, false, false, false, false, false, false, false] rfl rfl (any_of HT_.out (by kernel_rfl)) (fun _ _ _ h => h) (Or.inl ⟨by rfl, ?_⟩) ?_ ?_
        rotate_left
        ·intro w'
         go_simp
         with_reducible rfl
        rotate_left
        ·simp only [Act.put, List.setIfInBounds_toArray, List.set_cons_zero, List.set_cons_succ, i64_w, i32_w]
         rfl
        refine pure_ (i := 4) (N := some 51) (v := ?_) (a' := ?_) #[true, false, true, false, true, false, false, false, false, false] rfl rfl (any_of HT_.out (by kernel_rfl)) (fun _ _ _ h => h) (Or.inl ⟨by rfl, ?_⟩) ?_ ?_
        rotate_left
        ·intro w'
         go_simp
         with_reducible rfl
        rotate_left
        ·simp only [Act.put, List.setIfInBounds_toArray, List.set_cons_zero, List.set_cons_succ, i64_w, i32_w]
         rfl
        refine take_ (i := 1) (N := some 48) (v := ?_) (a' := ?_) #[true, true, true, false, true, false, false, false, false, false] rfl rfl (take_ofW HT_.out HW_.out (by kernel_rfl)) (fun _ _ _ h => h) (Or.inl ⟨by rfl, ?_⟩) hHeld ?_ ?_
        rotate_left
        ·rintro w' ⟨s0, s1⟩
         go_simp
         with_reducible rfl
        rotate_left
        ·simp only [Act.put, List.setIfInBounds_toArray, List.set_cons_zero, List.set_cons_succ, i64_w, i32_w]
         rfl
        refine pure_ (i := 3) (N := some 50) (v := ?_) (a' := ?_) #[true, true, true, true, true, false, false, false, false, false] rfl rfl (any_of HT_.out (by kernel_rfl)) (fun _ _ _ h => h) (Or.inl ⟨by rfl, ?_⟩) ?_ ?_
        rotate_left
        ·intro w'
         go_simp
         with_reducible rfl
        rotate_left
        ·simp only [Act.put, List.setIfInBounds_toArray, List.set_cons_zero, List.set_cons_succ, i64_w, i32_w]
         rfl
        refine take_ (i := 5) (N := some 52) (v := ?_) (a' := ?_) #[true, true, true, true, true, true, false, false, false, false] rfl rfl (take_ofW HT_.out HW_.out (by kernel_rfl)) (fun _ _ _ h => h) (Or.inl ⟨by rfl, ?_⟩) hHeld ?_ ?_
        rotate_left
        ·rintro w' ⟨s0, s1⟩
         go_simp
         with_reducible rfl
        rotate_left
        ·simp only [Act.put, List.setIfInBounds_toArray, List.set_cons_zero, List.set_cons_succ, i64_w, i32_w]
         rfl
        refine pure_ (i := 6) (N := some 53) (v := ?_) (a' := ?_) #[true, true, true, true, true, true, true, false, false, false] rfl rfl (any_of HT_.out (by kernel_rfl)) (fun _ _ _ h => h) (Or.inl ⟨by rfl, ?_⟩) ?_ ?_
        rotate_left
        ·intro w'
         go_simp
         with_reducible rfl
        rotate_left
        ·simp only [Act.put, List.setIfInBounds_toArray, List.set_cons_zero, List.set_cons_succ, i64_w, i32_w]
         rfl
        refine join_ (σ := Nat) 1 #[true, true, true, true, true, true, true, true, true, false] (fun s_ => [(54, .agg #[.string t514, .int .i64 t515]), (13, .pointer (some ⟨s_, 0, none⟩))]) (fun s_ w' => (w'.cell? ⟨gb513, 0, none⟩ = some (.string t511) ∧ w'.cell? ⟨gb513, 1, none⟩ = some (.int .i64 t512)) ∧ (w'.heap[gb504]? = some (.cells #[.string x505000_1, .int .i64 x505001_1] 28 (0, 0))) ∧ (w'.heap[gb513]? = some (.cells #[.string t511, .int .i64 t512] 28 (0, 0))) ∧ (w'.heap[s_]? = some (.cells #[.string (⟨#[]⟩ : ByteArray), .int .i64 0] 28 (0, 0))) ∧ (w.heap.size ≤ s_) ∧ (w.heap.size ≤ s_) ∧ (gb504 ≠ s_) ∧ (s_ ≠ gb504) ∧ (gb513 ≠ s_) ∧ (s_ ≠ gb513) ∧ (Below w.heap.size w w')) ?_ ?_
        rotate_left
        ·intro hCont
         refine two_ (i := 7) (j := 8) (Ni := some 54) (Nj := some 13) #[true, true, true, true, true, true, true, true, false, false] #[true, true, true, true, true, true, true, false, true, false] rfl rfl rfl rfl (two_of HT_.out (by kernel_rfl)) (by decide) (by decide) (fun K hK => ?_) (fun K hK => ?_)
         ·skip
          refine goes_ Tryd.func46 (by kernel_rfl) rfl #[.agg #[.string (t511.extract 0 (x12_1 : Int).toNat), .int .i64 t512]] (by rfl) rfl rfl lz ?_
          with_reducible refine (platenref04_In.calls k1 (t511.extract 0 (x12_1 : Int).toNat) t512 t514 t515 _ A17.out).mono ?_
          rintro e w25 ⟨rfl, hb⟩
          refine ⟨_, rfl, ?_⟩
          replace BK504 := Aside0.mk (blk_below (g := gb504) (o := .cells #[.string x505000_1, .int .i64 x505001_1] 28 (0, 0)) bk hb)
          replace BK513 := Aside0.mk (blk_below (g := gb513) (o := .cells #[.string t511, .int .i64 t512] 28 (0, 0)) bk hb)
          replace HB := Aside0.mk (below_step bz hb)
          (try clear hb)
          (try clear hb2)
          (try clear hk)
          (try clear hi)
          refine hK.out _ _ ⟨(blk_cell BK513.out 0).trans rfl, (blk_cell BK513.out 1).trans rfl⟩ (fun hHeld => ?_)
          clear hK K
          refine norm_ (a' := ?_) ?_ ?_
          rotate_left
          ·show Act.put _ (some 54) _ = _
           simp only [Act.put, List.setIfInBounds_toArray, List.set_cons_zero, List.set_cons_succ, i64_w, i32_w]
           rfl
          refine one_ (i := 8) (N := some 13) #[true, true, true, true, true, true, true, true, true, false] rfl rfl (one_of HT_.out (by kernel_rfl)) (by decide) (fun K hK => ?_)
          refine box_step ?hg (N := 13) ?hd (cs := #[.string (⟨#[]⟩ : ByteArray), .int .i64 0]) (t := 28) ?hr ?_; (case hd => rfl); (case hg => rfl); (case hr => first | (go_simp; done) | (go_simp; rfl))
          intro gb516 hg w26 hbox hb
          have BK516 := Aside0.mk (hbox)
          have GW516 := Aside0.mk ((by rw [hg]; exact (below_size bz) : w.heap.size ≤ gb516))
          have GE516 := Aside0.mk ((by rw [hg]; exact (below_size bz) : w.heap.size ≤ gb516))
          have NB504_516 := Aside0.mk ((by rw [hg]; exact Nat.ne_of_lt (blk_lt (g := gb504) (o := .cells #[.string x505000_1, .int .i64 x505001_1] 28 (0, 0)) bk) : gb504 ≠ gb516))
          have NB516_504 := Aside0.mk ((by rw [hg]; exact Nat.ne_of_gt (blk_lt (g := gb504) (o := .cells #[.string x505000_1, .int .i64 x505001_1] 28 (0, 0)) bk) : gb516 ≠ gb504))
          have NB513_516 := Aside0.mk ((by rw [hg]; exact Nat.ne_of_lt (blk_lt (g := gb513) (o := .cells #[.string t511, .int .i64 t512] 28 (0, 0)) bk) : gb513 ≠ gb516))
          have NB516_513 := Aside0.mk ((by rw [hg]; exact Nat.ne_of_gt (blk_lt (g := gb513) (o := .cells #[.string t511, .int .i64 t512] 28 (0, 0)) bk) : gb516 ≠ gb513))
          replace BK504 := Aside0.mk (blk_below (g := gb504) (o := .cells #[.string x505000_1, .int .i64 x505001_1] 28 (0, 0)) bk hb)
          replace BK513 := Aside0.mk (blk_below (g := gb513) (o := .cells #[.string t511, .int .i64 t512] 28 (0, 0)) bk hb)
          replace HB := Aside0.mk (below_step bz hb)
          clear hb hbox hg
          refine hK.out _ _ ⟨(blk_cell BK513.out 0).trans rfl, (blk_cell BK513.out 1).trans rfl⟩ (fun hHeld => ?_)
          clear hK K
          refine norm_ (a' := ?_) ?_ ?_
          rotate_left
          ·show Act.put _ (some 13) _ = _
           simp only [Act.put, List.setIfInBounds_toArray, List.set_cons_zero, List.set_cons_succ, i64_w, i32_w]
           rfl
          exact norm_ (by simp only [putAll, Act.put, List.setIfInBounds_toArray, List.set_cons_zero, List.set_cons_succ]) (hCont (gb516) _ ⟨hHeld, bk, bk, bk, GW516.out, GE516.out, NB504_516.out, NB516_504.out, NB513_516.out, NB516_513.out, bz⟩)
         ·skip
          refine box_step ?hg (N := 13) ?hd (cs := #[.string (⟨#[]⟩ : ByteArray), .int .i64 0]) (t := 28) ?hr ?_; (case hd => rfl); (case hg => rfl); (case hr => first | (go_simp; done) | (go_simp; rfl))
          intro gb516 hg w25 hbox hb
          have BK516 := Aside0.mk (hbox)
          have GW516 := Aside0.mk ((by rw [hg]; exact (below_size bz) : w.heap.size ≤ gb516))
          have GE516 := Aside0.mk ((by rw [hg]; exact (below_size bz) : w.heap.size ≤ gb516))
          have NB504_516 := Aside0.mk ((by rw [hg]; exact Nat.ne_of_lt (blk_lt (g := gb504) (o := .cells #[.string x505000_1, .int .i64 x505001_1] 28 (0, 0)) bk) : gb504 ≠ gb516))
          have NB516_504 := Aside0.mk ((by rw [hg]; exact Nat.ne_of_gt (blk_lt (g := gb504) (o := .cells #[.string x505000_1, .int .i64 x505001_1] 28 (0, 0)) bk) : gb516 ≠ gb504))
          have NB513_516 := Aside0.mk ((by rw [hg]; exact Nat.ne_of_lt (blk_lt (g := gb513) (o := .cells #[.string t511, .int .i64 t512] 28 (0, 0)) bk) : gb513 ≠ gb516))
          have NB516_513 := Aside0.mk ((by rw [hg]; exact Nat.ne_of_gt (blk_lt (g := gb513) (o := .cells #[.string t511, .int .i64 t512] 28 (0, 0)) bk) : gb516 ≠ gb513))
          replace BK504 := Aside0.mk (blk_below (g := gb504) (o := .cells #[.string x505000_1, .int .i64 x505001_1] 28 (0, 0)) bk hb)
          replace BK513 := Aside0.mk (blk_below (g := gb513) (o := .cells #[.string t511, .int .i64 t512] 28 (0, 0)) bk hb)
          replace HB := Aside0.mk (below_step bz hb)
          clear hb hbox hg
          refine hK.out _ _ ⟨(blk_cell BK513.out 0).trans rfl, (blk_cell BK513.out 1).trans rfl⟩ (fun hHeld => ?_)
          clear hK K
          refine norm_ (a' := ?_) ?_ ?_
          rotate_left
          ·show Act.put _ (some 13) _ = _
           simp only [Act.put, List.setIfInBounds_toArray, List.set_cons_zero, List.set_cons_succ, i64_w, i32_w]
           rfl
          refine one_ (i := 7) (N := some 54) #[true, true, true, true, true, true, true, true, true, false] rfl rfl (one_of HT_.out (by kernel_rfl)) (by decide) (fun K hK => ?_)
          refine goes_ Tryd.func46 (by kernel_rfl) rfl #[.agg #[.string (t511.extract 0 (x12_1 : Int).toNat), .int .i64 t512]] (by rfl) rfl rfl lz ?_
          with_reducible refine (platenref04_In.calls k1 (t511.extract 0 (x12_1 : Int).toNat) t512 t514 t515 _ A17.out).mono ?_
          rintro e w26 ⟨rfl, hb⟩
          refine ⟨_, rfl, ?_⟩
          replace BK504 := Aside0.mk (blk_below (g := gb504) (o := .cells #[.string x505000_1, .int .i64 x505001_1] 28 (0, 0)) bk hb)
          replace BK513 := Aside0.mk (blk_below (g := gb513) (o := .cells #[.string t511, .int .i64 t512] 28 (0, 0)) bk hb)
          replace BK516 := Aside0.mk (blk_below (g := gb516) (o := .cells #[.string (⟨#[]⟩ : ByteArray), .int .i64 0] 28 (0, 0)) bk hb)
          replace HB := Aside0.mk (below_step bz hb)
          (try clear hb)
          (try clear hb2)
          (try clear hk)
          (try clear hi)
          refine hK.out _ _ ⟨(blk_cell BK513.out 0).trans rfl, (blk_cell BK513.out 1).trans rfl⟩ (fun hHeld => ?_)
          clear hK K
          refine norm_ (a' := ?_) ?_ ?_
          rotate_left
          ·show Act.put _ (some 54) _ = _
           simp only [Act.put, List.setIfInBounds_toArray, List.set_cons_zero, List.set_cons_succ, i64_w, i32_w]
           rfl
          exact norm_ (by simp only [putAll, Act.put, List.setIfInBounds_toArray, List.set_cons_zero, List.set_cons_succ]) (hCont (gb516) _ ⟨hHeld, bk, bk, bk, GW516.out, GE516.out, NB504_516.out, NB516_504.out, NB513_516.out, NB516_513.out, bz⟩)
        rintro gb516 w27 ⟨hS_, h0_, h1_, h2_, h3_, h4_, h5_, h6_, h7_, h8_, h9_⟩
        have n0_ : Aside0 (w27.heap[gb504]? = some (.cells #[.string x505000_1, .int .i64 x505001_1] 28 (0, 0))) := ⟨h0_⟩
        have n1_ : Aside0 (w27.heap[gb513]? = some (.cells #[.string t511, .int .i64 t512] 28 (0, 0))) := ⟨h1_⟩
        have n2_ : Aside0 (w27.heap[gb516]? = some (.cells #[.string (⟨#[]⟩ : ByteArray), .int .i64 0] 28 (0, 0))) := ⟨h2_⟩
        have n3_ : Aside0 (w.heap.size ≤ gb516) := ⟨h3_⟩
        have n4_ : Aside0 (w.heap.size ≤ gb516) := ⟨h4_⟩
        have n5_ : Aside0 (gb504 ≠ gb516) := ⟨h5_⟩
        have n6_ : Aside0 (gb516 ≠ gb504) := ⟨h6_⟩
        have n7_ : Aside0 (gb513 ≠ gb516) := ⟨h7_⟩
        have n8_ : Aside0 (gb516 ≠ gb513) := ⟨h8_⟩
        have n9_ : Aside0 (Below w.heap.size w w27) := ⟨h9_⟩
        clear BK504
        clear BK513
        clear HB
        clear h0_ h1_ h2_ h3_ h4_ h5_ h6_ h7_ h8_ h9_
        have BK504 := n0_
        have BK513 := n1_
        have BK516 := n2_
        have GW516 := n3_
        have GE516 := n4_
        have NB504_516 := n5_
        have NB516_504 := n6_
        have NB513_516 := n7_
        have NB516_513 := n8_
        have HB := n9_
        clear n0_ n1_ n2_ n3_ n4_ n5_ n6_ n7_ n8_ n9_
        have hHeld : w27.cell? ⟨gb513, 0, none⟩ = some (.string t511) ∧ w27.cell? ⟨gb513, 1, none⟩ = some (.int .i64 t512) := hS_
        refine norm_ (a' := ?_) ?_ ?_
        rotate_left
        ·simp only [putAll, Act.put, List.setIfInBounds_toArray, List.set_cons_zero, List.set_cons_succ]
         rfl
        refine one_ (i := 9) (N := none) #[true, true, true, true, true, true, true, true, true, true] rfl rfl (one_of HT_.out (by kernel_rfl)) (by decide) (fun K hK => ?_)
        have hs28 : w27.cell? ⟨gb516, 0, none⟩ = some (.string (⟨#[]⟩ : ByteArray)) := (blk_cell BK516.out 0).trans rfl
        have hfs28 := blk_frozen BK516.out 0
        have hns28_0 := NB504_516.out
        have hns28_1 := NB513_516.out
        have hms28_0 := NB516_504.out
        have hms28_1 := NB516_513.out
        have hs29 : w27.cell? ⟨gb516, 1, none⟩ = some (.int .i64 0) := (blk_cell BK516.out 1).trans rfl
        have hfs29 := blk_frozen BK516.out 1
        have hns29_0 := NB504_516.out
        have hns29_1 := NB513_516.out
        have hms29_0 := NB516_504.out
        have hms29_1 := NB516_513.out
        refine skip_ (w1 := ?_) (by rfl) rfl ?_ ?_
        rotate_left
        ·go_simp
         rfl
        refine hK.out _ _ ⟨((cell_far (p := ⟨gb516, _, none⟩) NB513_516.out _).trans (((cell_far (p := ⟨gb516, _, none⟩) NB513_516.out _).trans (hHeld.1)))), ((cell_far (p := ⟨gb516, _, none⟩) NB513_516.out _).trans (((cell_far (p := ⟨gb516, _, none⟩) NB513_516.out _).trans (hHeld.2))))⟩ (fun hHeld => ?_)
        clear hK K
        refine done_ (done_of HT_.out (by kernel_rfl)) ?_
        have hnb30 := NB516_504.out
        have hnc30 := NB504_516.out
        have hnb31 := NB516_513.out
        have hnc31 := NB513_516.out
        obtain ⟨hcz32_0, hcz32_1, hfz32_0, hfz32_1⟩ := cz2 (W := w27) BK516
        obtain ⟨hcz33_0, hcz33_1, hfz33_0, hfz33_1⟩ := cz2 (W := w27) BK513
        go_upto_region 15 with (first | ((with_reducible refine gate_callee (f := 47) rfl ?_); refine goesL_ (some 62) rfl rfl Tryd.func47 (by kernel_rfl) rfl #[.agg #[.string t514, .int .i64 t515], .agg #[.string (⟨#[49]⟩ : ByteArray), .int .i64 (wrap64 ((wrap64 (t512 - x12_1)) + 1))]] rfl lz ?_; (with_reducible refine (platenref04_Sum.calls k1 t514 t515 (⟨#[49]⟩ : ByteArray) (wrap64 ((wrap64 (t512 - x12_1)) + 1)) t517 t518 _ A18.out).mono ?_); rintro e w34 ⟨rfl, hb⟩; refine ⟨_, rfl, ?_⟩; replace BK504 := kN (g := gb504) (cs := #[.string x505000_1, .int .i64 x505001_1]) hb bk; replace BK513 := kN (g := gb513) (cs := #[.string t511, .int .i64 t512]) hb bk; replace BK516 := kN (g := gb516) (cs := #[.string t514, .int .i64 t515]) hb bk; replace HB := bN bz hb; (try clear hb); (try clear hb2); (try clear hk); (try clear hi)) | ((with_reducible refine gate_dst (N := 14) rfl ?_); refine box_event rfl (N := 14) rfl (cs := #[.string (⟨#[]⟩ : ByteArray), .int .i64 0]) (t := 28) gz ?_; intro gb519 hg w35 hbox hb; have GE519 := gN bz hg; have NB504_519 := lN (g := gb504) (cs := #[.string x505000_1, .int .i64 x505001_1]) hg bk; have NB519_504 := rN (g := gb504) (cs := #[.string x505000_1, .int .i64 x505001_1]) hg bk; have NB513_519 := lN (g := gb513) (cs := #[.string t511, .int .i64 t512]) hg bk; have NB519_513 := rN (g := gb513) (cs := #[.string t511, .int .i64 t512]) hg bk; have NB516_519 := lN (g := gb516) (cs := #[.string t514, .int .i64 t515]) hg bk; have NB519_516 := rN (g := gb516) (cs := #[.string t514, .int .i64 t515]) hg bk; replace BK504 := kN (g := gb504) (cs := #[.string x505000_1, .int .i64 x505001_1]) hb bk; replace BK513 := kN (g := gb513) (cs := #[.string t511, .int .i64 t512]) hb bk; replace BK516 := kN (g := gb516) (cs := #[.string t514, .int .i64 t515]) hb bk; have BK519 := Aside0.mk hbox; replace HB := bN bz hb; clear hb hbox hg; have hnb36 := NB519_504.out; have hnc36 := NB504_519.out; have hnb37 := NB519_513.out; have hnc37 := NB513_519.out; have hnb38 := NB519_516.out; have hnc38 := NB516_519.out; obtain ⟨hcz39_0, hcz39_1, hfz39_0, hfz39_1⟩ := cz2 (W := w35) BK519; obtain ⟨hcz40_0, hcz40_1, hfz40_0, hfz40_1⟩ := cz2 (W := w35) BK516) | ((with_reducible refine gate_callee (f := 17) rfl ?_); refine goesL_ (some 66) rfl rfl Tryd.func17 (by kernel_rfl) rfl #[.agg #[.string t514, .int .i64 t515], .int .i64 a1] rfl lz ?_; (with_reducible refine (platenref05_Read.calls k1 t514 t515 a1 t520 t521 _ A19.out).mono ?_); rintro e w41 ⟨rfl, hb⟩; refine ⟨_, rfl, ?_⟩; replace BK504 := kN (g := gb504) (cs := #[.string x505000_1, .int .i64 x505001_1]) hb bk; replace BK513 := kN (g := gb513) (cs := #[.string t511, .int .i64 t512]) hb bk; replace BK516 := kN (g := gb516) (cs := #[.string t514, .int .i64 t515]) hb bk; replace BK519 := kN (g := gb519) (cs := #[.string t517, .int .i64 t518]) hb bk; replace HB := bN bz hb; (try clear hb); (try clear hb2); (try clear hk); (try clear hi); obtain ⟨hcz42_0, hcz42_1, hfz42_0, hfz42_1⟩ := cz2 (W := w41) BK519) | ((with_reducible refine gate_callee (f := 17) rfl ?_); refine goesL_ (some 72) rfl rfl Tryd.func17 (by kernel_rfl) rfl #[.agg #[.string t517, .int .i64 t518], .int .i64 a1] rfl lz ?_; (with_reducible refine (platenref05_Read.calls k1 t517 t518 a1 t522 t523 _ A20.out).mono ?_); rintro e w43 ⟨rfl, hb⟩; refine ⟨_, rfl, ?_⟩; replace BK504 := kN (g := gb504) (cs := #[.string x505000_1, .int .i64 x505001_1]) hb bk; replace BK513 := kN (g := gb513) (cs := #[.string t511, .int .i64 t512]) hb bk; replace BK516 := kN (g := gb516) (cs := #[.string t514, .int .i64 t515]) hb bk; replace BK519 := kN (g := gb519) (cs := #[.string t517, .int .i64 t518]) hb bk; replace HB := bN bz hb; (try clear hb); (try clear hb2); (try clear hk); (try clear hi)))
        (try simp only [Act.put, List.setIfInBounds_toArray, List.set_cons_zero, List.set_cons_succ])
        go_cut [82] (fun v82 wc => ∃ (kq : Nat) (x82_20 : Bool), v82 = .bool x82_20 ∧ Aside0 (platenref05_Shortest.j1 kq a1 t510 x12_1 t520 t522 x82_20 t511 t512 t514 t515 t517 t518 = some (r1, r2, r3)) ∧ Aside0 (kq ≤ k1) ∧ Aside0 (wc.heap[gb504]? = some (.cells #[.string x505000_1, .int .i64 x505001_1] 28 (0, 0))) ∧ Aside0 (wc.heap[gb513]? = some (.cells #[.string t511, .int .i64 t512] 28 (0, 0))) ∧ Aside0 (wc.heap[gb516]? = some (.cells #[.string t514, .int .i64 t515] 28 (0, 0))) ∧ Aside0 (wc.heap[gb519]? = some (.cells #[.string t517, .int .i64 t518] 28 (0, 0))) ∧ Aside0 (Below w.heap.size w wc))
        case first =>
         have H := HC21.out
         clear HC21
         by_cases c44 : t520 = t510
         ·rw [if_pos c44] at H
          obtain ⟨c44b0, c44b1⟩ := eT c44
          clear c44
          try first | rw [c44b0] | rw [c44b1]
          have H' := Aside0.mk H
          clear H
          go_wp2
          go_meet
          case rel => exact ⟨_, (false), rz, H', ⟨by have := HK1.out; first | omega | exact Nat.le_refl _⟩, ⟨bk⟩, ⟨bk⟩, ⟨bk⟩, ⟨bk⟩, ⟨bz⟩⟩
         ·rw [if_neg c44] at H
          obtain ⟨c44b0, c44b1⟩ := eF c44
          try first | rw [c44b0] | rw [c44b1]
          have H' := Aside0.mk H
          clear H
          go_wp2
          go_meet
          case rel => exact ⟨_, ((t522 != t510)), rz, H', ⟨by have := HK1.out; first | omega | exact Nat.le_refl _⟩, ⟨bk⟩, ⟨bk⟩, ⟨bk⟩, ⟨bk⟩, ⟨bz⟩⟩
        case rest =>
         clear HC21
         try clear c5
         try clear c7
         try clear c7b0
         try clear c7b1
         try clear c14
         try clear c14b0
         try clear c15
         try clear c15b0
         try clear c15b1
         try clear c16
         try clear c16b0
         try clear c16b1
         try clear c44
         try clear c44b0
         try clear c44b1
         try clear hcz13_0 hcz13_1 hfz13_0 hfz13_1
         try clear hcz23_0 hcz23_1 hfz23_0 hfz23_1
         try clear hcz32_0 hcz32_1 hfz32_0 hfz32_1
         try clear hcz33_0 hcz33_1 hfz33_0 hfz33_1
         try clear hcz39_0 hcz39_1 hfz39_0 hfz39_1
         try clear hcz40_0 hcz40_1 hfz40_0 hfz40_1
         try clear hcz42_0 hcz42_1 hfz42_0 hfz42_1
         obtain ⟨kq, x82_20, rfl, HA, HJ20, BK504, BK513, BK516, BK519, HB⟩ := hcut
         cases kq with
         | zero => exact absurd HA.out (by simp [platenref05_Shortest.j1])
         | succ kj20 =>
          have H := HA.out
          clear HA
          simp only [platenref05_Shortest.j1] at H
          by_cases c45 : x82_20 = true
          ·subst c45
           replace H := hT H
           have H' := Aside0.mk H
           clear H
           go_wp2
           go_roundg kj20
           case measure => have := HK1.out; have := HJ20.out; omega
           case rel => exact ⟨(wrap64 (x12_1 + 1)), (x505000_1), (x505001_1), rz, H', ⟨by have := HK1.out; have := HJ20.out; omega⟩, ⟨bk⟩, ⟨bk⟩, ⟨bz⟩⟩
          ·replace c45 := Bool.eq_false_iff.mpr c45
           subst c45
           replace H := hF H
           by_cases c46 : t520 = t510
           ·rw [if_pos c46] at H
            obtain ⟨c46b0, c46b1⟩ := eT c46
            clear c46
            by_cases c47 : t522 = t510
            ·rw [if_pos c47] at H
             obtain ⟨c47b0, c47b1⟩ := eT c47
             clear c47
             replace H := bs H
             obtain ⟨⟨t524, t525⟩, A48, H⟩ := H
             dsimp only at H
             try go_wp2
             replace BK504 := Aside0.mk (blk_drew BK504.out)
             replace BK513 := Aside0.mk (blk_drew BK513.out)
             replace BK516 := Aside0.mk (blk_drew BK516.out)
             replace BK519 := Aside0.mk (blk_drew BK519.out)
             replace HB := Aside0.mk (below_drew1 HB.out)
             refine start_ (n := 18) (S := fun w' => w'.cell? ⟨gb513, 0, none⟩ = some (.string t511) ∧ w'.cell? ⟨gb513, 1, none⟩ = some (.int .i64 t512) ∧ w'.cell? ⟨gb516, 0, none⟩ = some (.string t514) ∧ w'.cell? ⟨gb516, 1, none⟩ = some (.int .i64 t515)) (ds := []) #[false, false, false, false, false, false, false, false, false, false, false, false, false, false, false, false, false, false] (by kernel_rfl) rfl rfl ⟨(blk_cell BK513.out 0).trans rfl, (blk_cell BK513.out 1).trans rfl, (blk_cell BK516.out 0).trans rfl, (blk_cell BK516.out 1).trans rfl⟩ (fun hHeld => ?_); refine with_tabW platenref05_Shortest.tab16 platenref05_Shortest.bits16 (fun HT_ HW_ => ?_)
             generalize wc.drew = w49 at BK504 BK513 BK516 BK519 HB hHeld ⊢
             refine pure_ (i := 0) (N := some 83) (v := ?_) (a' := ?_) #[true, false, false, false, false, false, false, false, false, false, false, false, false, false, false, false, false, false] rfl rfl (any_of HT_.out (by kernel_rfl)) (fun _ _ _ h => h) (Or.inl ⟨by rfl, ?_⟩) ?_ ?_
             rotate_left
             ·intro w'
              go_simp
              with_reducible rfl
             rotate_left
             ·simp only [Act.put, List.setIfInBounds_toArray, List.set_cons_zero, List.set_cons_succ, i64_w, i32_w]
              rfl
             refine pure_ (i := 1) (N := some 84) (v := ?_) (a' := ?_) #[true, true, false, false, false, false, false, false, false, false, false, false, false, false, false, false, false, false] rfl rfl (any_of HT_.out (by kernel_rfl)) (fun _ _ _ h => h) (Or.inl ⟨by rfl, ?_⟩) ?_ ?_
             rotate_left
             ·intro w'
              go_simp
              with_reducible rfl
             rotate_left
             ·simp only [Act.put, List.setIfInBounds_toArray, List.set_cons_zero, List.set_cons_succ, i64_w, i32_w]
              rfl
             refine pure_ (i := 2) (N := some 85) (v := ?_) (a' := ?_) #[true, true, true, false, false, false, false, false, false, false, false, false, false, false, false, false, false, false] rfl rfl (any_of HT_.out (by kernel_rfl)) (fun _ _ _ h => h) (Or.inl ⟨by rfl, ?_⟩) ?_ ?_
             rotate_left
             ·intro w'
              go_simp
              with_reducible rfl
             rotate_left
             ·simp only [Act.put, List.setIfInBounds_toArray, List.set_cons_zero, List.set_cons_succ, i64_w, i32_w]
              rfl
             refine pure_ (i := 3) (N := some 86) (v := ?_) (a' := ?_) #[true, true, true, true, false, false, false, false, false, false, false, false, false, false, false, false, false, false] rfl rfl (any_of HT_.out (by kernel_rfl)) (fun _ _ _ h => h) (Or.inl ⟨by rfl, ?_⟩) ?_ ?_
             rotate_left
             ·intro w'
              go_simp
              with_reducible rfl
             rotate_left
             ·simp only [Act.put, List.setIfInBounds_toArray, List.set_cons_zero, List.set_cons_succ, i64_w, i32_w]
              rfl
             refine pure_ (i := 4) (N := some 87) (v := ?_) (a' := ?_) #[true, true, true, true, true, false, false, false, false, false, false, false, false, false, false, false, false, false] rfl rfl (any_of HT_.out (by kernel_rfl)) (fun _ _ _ h => h) (Or.inl ⟨by rfl, ?_⟩) ?_ ?_
             rotate_left
             ·intro w'
              go_simp
              with_reducible rfl
             rotate_left
             ·simp only [Act.put, List.setIfInBounds_toArray, List.set_cons_zero, List.set_cons_succ, i64_w, i32_w]
              rfl
             refine pure_ (i := 5) (N := some 88) (v := ?_) (a' := ?_) #[true, true, true, true, true, true, false, false, false, false, false, false, false, false, false, false, false, false] rfl rfl (any_of HT_.out (by kernel_rfl)) (fun _ _ _ h => h) (Or.inl ⟨by rfl, ?_⟩) ?_ ?_
             rotate_left
             ·intro w'
              go_simp
              with_reducible rfl
             rotate_left
             ·simp only [Act.put, List.setIfInBounds_toArray, List.set_cons_zero, List.set_cons_succ, i64_w, i32_w]
              rfl
             refine pure_ (i := 6) (N := some 89) (v := ?_) (a' := ?_) #[true, true, true, true, true, true, true, false, false, false, false, false, false, false, false, false, false, false] rfl rfl (any_of HT_.out (by kernel_rfl)) (fun _ _ _ h => h) (Or.inl ⟨by rfl, ?_⟩) ?_ ?_
             rotate_left
             ·intro w'
              go_simp
              with_reducible rfl
             rotate_left
             ·simp only [Act.put, List.setIfInBounds_toArray, List.set_cons_zero, List.set_cons_succ, i64_w, i32_w]
              rfl
             refine pure_ (i := 7) (N := some 90) (v := ?_) (a' := ?_) #[true, true, true, true, true, true, true, true, false, false, false, false, false, false, false, false, false, false] rfl rfl (any_of HT_.out (by kernel_rfl)) (fun _ _ _ h => h) (Or.inl ⟨by rfl, ?_⟩) ?_ ?_
             rotate_left
             ·intro w'
              go_simp
              with_reducible rfl
             rotate_left
             ·simp only [Act.put, List.setIfInBounds_toArray, List.set_cons_zero, List.set_cons_succ, i64_w, i32_w]
              rfl
             refine pure_ (i := 9) (N := some 92) (v := ?_) (a' := ?_) #[true, true, true, true, true, true, true, true, false, true, false, false, false, false, false, false, false, false] rfl rfl (any_of HT_.out (by kernel_rfl)) (fun _ _ _ h => h) (Or.inl ⟨by rfl, ?_⟩) ?_ ?_
             rotate_left
             ·intro w'
              go_simp
              with_reducible rfl
             rotate_left
             ·simp only [Act.put, List.setIfInBounds_toArray, List.set_cons_zero, List.set_cons_succ, i64_w, i32_w]
              rfl
             refine pure_ (i := 11) (N := some 94) (v := ?_) (a' := ?_) #[true, true, true, true, true, true, true, true, false, true, false, true, false, false, false, false, false, false] rfl rfl (any_of HT_.out (by kernel_rfl)) (fun _ _ _ h => h) (Or.inl ⟨by rfl, ?_⟩) ?_ ?_
             rotate_left
             ·intro w'
              go_simp
              with_reducible rfl
             rotate_left
             ·simp only [Act.put, List.setIfInBounds_toArray, List.set_cons_zero, List.set_cons_succ, i64_w, i32_w]
              rfl
             refine take_ (i := 8) (N := some 91) (v := ?_) (a' := ?_) #[true, true, true, true, true, true, true, true, true, true, false, true, false, false, false, false, false, false] rfl rfl (take_ofW HT_.out HW_.out (by kernel_rfl)) (fun _ _ _ h => h) (Or.inl ⟨by rfl, ?_⟩) hHeld ?_ ?_
             rotate_left
             ·rintro w' ⟨s0, s1, s2, s3⟩
              go_simp
              with_reducible rfl
             rotate_left
             ·simp only [Act.put, List.setIfInBounds_toArray, List.set_cons_zero, List.set_cons_succ, i64_w, i32_w]
              rfl
             refine take_ (i := 10) (N := some 93) (v := ?_) (a' := ?_) #[true, true, true, true, true, true, true, true, true, true, true, true, false, false, false, false, false, false] rfl rfl (take_ofW HT_.out HW_.out (by kernel_rfl)) (fun _ _ _ h => h) (Or.inl ⟨by rfl, ?_⟩) hHeld ?_ ?_
             rotate_left
             ·rintro w' ⟨s0, s1, s2, s3⟩
              go_simp
              with_reducible rfl
             rotate_left
             ·simp only [Act.put, List.setIfInBounds_toArray, List.set_cons_zero, List.set_cons_succ, i64_w, i32_w]
              rfl
             refine pure_ (i := 12) (N := some 95) (v := ?_) (a' := ?_) #[true, true, true, true, true, true, true, true, true, true, true, true, true, false, false, false, false, false] rfl rfl (any_of HT_.out (by kernel_rfl)) (fun _ _ _ h => h) (Or.inl ⟨by rfl, ?_⟩) ?_ ?_
             rotate_left
             ·intro w'
              go_simp
              with_reducible rfl
             rotate_left
             ·simp only [Act.put, List.setIfInBounds_toArray, List.set_cons_zero, List.set_cons_succ, i64_w, i32_w]
              rfl
             refine take_ (i := 14) (N := some 97) (v := ?_) (a' := ?_) #[true, true, true, true, true, true, true, true, true, true, true, true, true, false, true, false, false, false] rfl rfl (take_ofW HT_.out HW_.out (by kernel_rfl)) (fun _ _ _ h => h) (Or.inl ⟨by rfl, ?_⟩) hHeld ?_ ?_
             rotate_left
             ·rintro w' ⟨s0, s1, s2, s3⟩
              go_simp
              with_reducible rfl
             rotate_left
             ·simp only [Act.put, List.setIfInBounds_toArray, List.set_cons_zero, List.set_cons_succ, i64_w, i32_w]
              rfl
             refine one_ (i := 13) (N := some 96) #[true, true, true, true, true, true, true, true, true, true, true, true, true, true, true, false, false, false] rfl rfl (one_of HT_.out (by kernel_rfl)) (by decide) (fun K hK => ?_)
             refine goes_ Tryd.func48 (by kernel_rfl) rfl #[.agg #[.string t511, .int .i64 t512], .int .i64 (wrap64 (t512 - x12_1))] (by rfl) rfl rfl lz ?_
             with_reducible refine (platenref04_Nearest.calls kj20 t511 t512 (wrap64 (t512 - x12_1)) t524 t525 _ A48.out).mono ?_
             rintro e w50 ⟨rfl, hb⟩
             refine ⟨_, rfl, ?_⟩
             replace BK504 := Aside0.mk (blk_below (g := gb504) (o := .cells #[.string x505000_1, .int .i64 x505001_1] 28 (0, 0)) bk hb)
             replace BK513 := Aside0.mk (blk_below (g := gb513) (o := .cells #[.string t511, .int .i64 t512] 28 (0, 0)) bk hb)
             replace BK516 := Aside0.mk (blk_below (g := gb516) (o := .cells #[.string t514, .int .i64 t515] 28 (0, 0)) bk hb)
             replace BK519 := Aside0.mk (blk_below (g := gb519) (o := .cells #[.string t517, .int .i64 t518] 28 (0, 0)) bk hb)
             replace HB := Aside0.mk (below_step bz hb)
             (try clear hb)
             (try clear hb2)
             (try clear hk)
             (try clear hi)
             refine hK.out _ _ ⟨(blk_cell BK513.out 0).trans rfl, (blk_cell BK513.out 1).trans rfl, (blk_cell BK516.out 0).trans rfl, (blk_cell BK516.out 1).trans rfl⟩ (fun hHeld => ?_)
             clear hK K
             refine norm_ (a' := ?_) ?_ ?_
             rotate_left
             ·show Act.put _ (some 96) _ = _
              simp only [Act.put, List.setIfInBounds_toArray, List.set_cons_zero, List.set_cons_succ, i64_w, i32_w]
              rfl
             refine pure_ (i := 15) (N := some 98) (v := ?_) (a' := ?_) #[true, true, true, true, true, true, true, true, true, true, true, true, true, true, true, true, false, false] rfl rfl (any_of HT_.out (by kernel_rfl)) (fun _ _ _ h => h) (Or.inl ⟨by rfl, ?_⟩) ?_ ?_
             rotate_left
             ·intro w'
              go_simp
              with_reducible rfl
             rotate_left
             ·simp only [Act.put, List.setIfInBounds_toArray, List.set_cons_zero, List.set_cons_succ, i64_w, i32_w]
              rfl
             refine pure_ (i := 16) (N := some 99) (v := ?_) (a' := ?_) #[true, true, true, true, true, true, true, true, true, true, true, true, true, true, true, true, true, false] rfl rfl (any_of HT_.out (by kernel_rfl)) (fun _ _ _ h => h) (Or.inl ⟨by rfl, ?_⟩) ?_ ?_
             rotate_left
             ·intro w'
              go_simp
              with_reducible rfl
             rotate_left
             ·simp only [Act.put, List.setIfInBounds_toArray, List.set_cons_zero, List.set_cons_succ, i64_w, i32_w]
              rfl
             refine pure_ (i := 17) (N := some 100) (v := ?_) (a' := ?_) #[true, true, true, true, true, true, true, true, true, true, true, true, true, true, true, true, true, true] rfl rfl (any_of HT_.out (by kernel_rfl)) (fun _ _ _ h => h) (Or.inl ⟨by rfl, ?_⟩) ?_ ?_
             rotate_left
             ·intro w'
              go_simp
              with_reducible rfl
             rotate_left
             ·simp only [Act.put, List.setIfInBounds_toArray, List.set_cons_zero, List.set_cons_succ, i64_w, i32_w]
              rfl
             refine done_ (done_of HT_.out (by kernel_rfl)) ?_
             go_upto_if 100 with (fail)
             by_cases c51 : (t524.toList == t514.toList && (t525 == t515)) = true
             ·rw [if_pos c51] at H
              have c51b0 : (t524.toList == t514.toList && (t525 == t515)) = true := c51
              (try (have c51b1 : decide (t524.toList = t514.toList && (t525 == t515)) = true := by simpa using c51))
              (try (have c51b2 : (t524.toList == t514.toList && (t525 == t515)) = true := by simpa using c51))
              clear c51
              try first | rw [c51b0] | rw [c51b1]
              simp only [Option.some.injEq, Prod.mk.injEq] at H
              obtain ⟨rfl, rfl, rfl⟩ := H
              have hnb52 := NB516_504.out
              have hnc52 := NB504_516.out
              have hnb53 := NB516_513.out
              have hnc53 := NB513_516.out
              have hnb54 := NB516_519.out
              have hnc54 := NB519_516.out
              obtain ⟨hcz55_0, hcz55_1, hfz55_0, hfz55_1⟩ := cz2 (W := w50) BK516
              have hnb56 := NB504_513.out
              have hnc56 := NB513_504.out
              have hnb57 := NB504_519.out
              have hnc57 := NB519_504.out
              obtain ⟨hcz58_0, hcz58_1, hfz58_0, hfz58_1⟩ := cz2 (W := w50) BK504
              go_wp2
              refine bodyPost_ret (results_ct rfl _ _ gb504 28 #[.string t514, .int .i64 t515] (0, 0) _ rfl bk Tryd.underlying28 rfl (by kernel_rfl)) rfl ?_
              exact ⟨ez, bz⟩
             ·rw [if_neg c51] at H
              have c51b0 : (t524.toList == t514.toList && (t525 == t515)) = false := by simpa using c51
              (try (have c51b1 : decide (t524.toList = t514.toList && (t525 == t515)) = false := by simpa using c51))
              (try (have c51b2 : (t524.toList == t514.toList && (t525 == t515)) = false := by simpa using c51))
              (try (have c51b3 : ¬ (t524.toList = t514.toList && (t525 == t515)) := by simpa using c51))
              clear c51
              try first | rw [c51b0] | rw [c51b1]
              simp only [Option.some.injEq, Prod.mk.injEq] at H
              obtain ⟨rfl, rfl, rfl⟩ := H
              have hnb59 := NB519_504.out
              have hnc59 := NB504_519.out
              have hnb60 := NB519_513.out
              have hnc60 := NB513_519.out
              have hnb61 := NB519_516.out
              have hnc61 := NB516_519.out
              obtain ⟨hcz62_0, hcz62_1, hfz62_0, hfz62_1⟩ := cz2 (W := w50) BK519
              have hnb63 := NB504_513.out
              have hnc63 := NB513_504.out
              have hnb64 := NB504_516.out
              have hnc64 := NB516_504.out
              obtain ⟨hcz65_0, hcz65_1, hfz65_0, hfz65_1⟩ := cz2 (W := w50) BK504
              go_wp2
              refine bodyPost_ret (results_ct rfl _ _ gb504 28 #[.string t517, .int .i64 t518] (0, 0) _ rfl bk Tryd.underlying28 rfl (by kernel_rfl)) rfl ?_
              exact ⟨ez, bz⟩
            ·rw [if_neg c47] at H
             obtain ⟨c47b0, c47b1⟩ := eF c47
             simp only [Option.some.injEq, Prod.mk.injEq] at H
             obtain ⟨rfl, rfl, rfl⟩ := H
             try go_wp2
             replace BK504 := Aside0.mk (blk_drew BK504.out)
             replace BK513 := Aside0.mk (blk_drew BK513.out)
             replace BK516 := Aside0.mk (blk_drew BK516.out)
             replace BK519 := Aside0.mk (blk_drew BK519.out)
             replace HB := Aside0.mk (below_drew1 HB.out)
             refine start_ (n := 18) (S := fun w' => True) (ds := []) #[false, false, false, false, false, false, false, false, false, false, false, false, false, false, false, false, false, false] (by kernel_rfl) rfl rfl trivial (fun hHeld => ?_); refine with_tabW platenref05_Shortest.tab16 platenref05_Shortest.bits16 (fun HT_ HW_ => ?_)
             generalize wc.drew = w66 at BK504 BK513 BK516 BK519 HB hHeld ⊢
             refine pure_ (i := 0) (N := some 83) (v := ?_) (a' := ?_) #[true, false, false, false, false, false, false, false, false, false, false, false, false, false, false, false, false, false] rfl rfl (any_of HT_.out (by kernel_rfl)) (fun _ _ _ h => h) (Or.inl ⟨by rfl, ?_⟩) ?_ ?_
             rotate_left
             ·intro w'
              go_simp
              with_reducible rfl
             rotate_left
             ·simp only [Act.put, List.setIfInBounds_toArray, List.set_cons_zero, List.set_cons_succ, i64_w, i32_w]
              rfl
             refine pure_ (i := 1) (N := some 84) (v := ?_) (a' := ?_) #[true, true, false, false, false, false, false, false, false, false, false, false, false, false, false, false, false, false] rfl rfl (any_of HT_.out (by kernel_rfl)) (fun _ _ _ h => h) (Or.inl ⟨by rfl, ?_⟩) ?_ ?_
             rotate_left
             ·intro w'
              go_simp
              with_reducible rfl
             rotate_left
             ·simp only [Act.put, List.setIfInBounds_toArray, List.set_cons_zero, List.set_cons_succ, i64_w, i32_w]
              rfl
             refine pure_ (i := 2) (N := some 85) (v := ?_) (a' := ?_) #[true, true, true, false, false, false, false, false, false, false, false, false, false, false, false, false, false, false] rfl rfl (any_of HT_.out (by kernel_rfl)) (fun _ _ _ h => h) (Or.inl ⟨by rfl, ?_⟩) ?_ ?_
             rotate_left
             ·intro w'
              go_simp
              with_reducible rfl
             rotate_left
             ·simp only [Act.put, List.setIfInBounds_toArray, List.set_cons_zero, List.set_cons_succ, i64_w, i32_w]
              rfl
             refine pure_ (i := 3) (N := some 86) (v := ?_) (a' := ?_) #[true, true, true, true, false, false, false, false, false, false, false, false, false, false, false, false, false, false] rfl rfl (any_of HT_.out (by kernel_rfl)) (fun _ _ _ h => h) (Or.inl ⟨by rfl, ?_⟩) ?_ ?_
             rotate_left
             ·intro w'
              go_simp
              with_reducible rfl
             rotate_left
             ·simp only [Act.put, List.setIfInBounds_toArray, List.set_cons_zero, List.set_cons_succ, i64_w, i32_w]
              rfl
             refine pure_ (i := 4) (N := some 87) (v := ?_) (a' := ?_) #[true, true, true, true, true, false, false, false, false, false, false, false, false, false, false, false, false, false] rfl rfl (any_of HT_.out (by kernel_rfl)) (fun _ _ _ h => h) (Or.inl ⟨by rfl, ?_⟩) ?_ ?_
             rotate_left
             ·intro w'
              go_simp
              with_reducible rfl
             rotate_left
             ·simp only [Act.put, List.setIfInBounds_toArray, List.set_cons_zero, List.set_cons_succ, i64_w, i32_w]
              rfl
             refine pure_ (i := 5) (N := some 88) (v := ?_) (a' := ?_) #[true, true, true, true, true, true, false, false, false, false, false, false, false, false, false, false, false, false] rfl rfl (any_of HT_.out (by kernel_rfl)) (fun _ _ _ h => h) (Or.inl ⟨by rfl, ?_⟩) ?_ ?_
             rotate_left
             ·intro w'
              go_simp
              with_reducible rfl
             rotate_left
             ·simp only [Act.put, List.setIfInBounds_toArray, List.set_cons_zero, List.set_cons_succ, i64_w, i32_w]
              rfl
             refine pure_ (i := 6) (N := some 89) (v := ?_) (a' := ?_) #[true, true, true, true, true, true, true, false, false, false, false, false, false, false, false, false, false, false] rfl rfl (any_of HT_.out (by kernel_rfl)) (fun _ _ _ h => h) (Or.inl ⟨by rfl, ?_⟩) ?_ ?_
             rotate_left
             ·intro w'
              go_simp
              with_reducible rfl
             rotate_left
             ·simp only [Act.put, List.setIfInBounds_toArray, List.set_cons_zero, List.set_cons_succ, i64_w, i32_w]
              rfl
             refine pure_ (i := 7) (N := some 90) (v := ?_) (a' := ?_) #[true, true, true, true, true, true, true, true, false, false, false, false, false, false, false, false, false, false] rfl rfl (any_of HT_.out (by kernel_rfl)) (fun _ _ _ h => h) (Or.inl ⟨by rfl, ?_⟩) ?_ ?_
             rotate_left
             ·intro w'
              go_simp
              with_reducible rfl
             rotate_left
             ·simp only [Act.put, List.setIfInBounds_toArray, List.set_cons_zero, List.set_cons_succ, i64_w, i32_w]
              rfl
             refine pure_ (i := 8) (N := some 91) (v := undef) (a' := ?_) #[true, true, true, true, true, true, true, true, true, false, false, false, false, false, false, false, false, false] rfl rfl (any_of HT_.out (by kernel_rfl)) (fun _ _ _ h => h) (Or.inr ⟨by rfl, rfl⟩) ?_ ?_
             rotate_left
             ·simp only [Act.put, List.setIfInBounds_toArray, List.set_cons_zero, List.set_cons_succ, i64_w, i32_w]
              rfl
             refine pure_ (i := 9) (N := some 92) (v := undef) (a' := ?_) #[true, true, true, true, true, true, true, true, true, true, false, false, false, false, false, false, false, false] rfl rfl (any_of HT_.out (by kernel_rfl)) (fun _ _ _ h => h) (Or.inr ⟨by rfl, rfl⟩) ?_ ?_
             rotate_left
             ·simp only [Act.put, List.setIfInBounds_toArray, List.set_cons_zero, List.set_cons_succ, i64_w, i32_w]
              rfl
             refine pure_ (i := 10) (N := some 93) (v := undef) (a' := ?_) #[true, true, true, true, true, true, true, true, true, true, true, false, false, false, false, false, false, false] rfl rfl (any_of HT_.out (by kernel_rfl)) (fun _ _ _ h => h) (Or.inr ⟨by rfl, rfl⟩) ?_ ?_
             rotate_left
             ·simp only [Act.put, List.setIfInBounds_toArray, List.set_cons_zero, List.set_cons_succ, i64_w, i32_w]
              rfl
             refine pure_ (i := 11) (N := some 94) (v := undef) (a' := ?_) #[true, true, true, true, true, true, true, true, true, true, true, true, false, false, false, false, false, false] rfl rfl (any_of HT_.out (by kernel_rfl)) (fun _ _ _ h => h) (Or.inr ⟨by rfl, rfl⟩) ?_ ?_
             rotate_left
             ·simp only [Act.put, List.setIfInBounds_toArray, List.set_cons_zero, List.set_cons_succ, i64_w, i32_w]
              rfl
             refine pure_ (i := 12) (N := some 95) (v := undef) (a' := ?_) #[true, true, true, true, true, true, true, true, true, true, true, true, true, false, false, false, false, false] rfl rfl (any_of HT_.out (by kernel_rfl)) (fun _ _ _ h => h) (Or.inr ⟨by rfl, rfl⟩) ?_ ?_
             rotate_left
             ·simp only [Act.put, List.setIfInBounds_toArray, List.set_cons_zero, List.set_cons_succ, i64_w, i32_w]
              rfl
             refine pure_ (i := 13) (N := some 96) (v := undef) (a' := ?_) #[true, true, true, true, true, true, true, true, true, true, true, true, true, true, false, false, false, false] rfl rfl (any_of HT_.out (by kernel_rfl)) (fun _ _ _ h => h) (Or.inr ⟨by rfl, rfl⟩) ?_ ?_
             rotate_left
             ·simp only [Act.put, List.setIfInBounds_toArray, List.set_cons_zero, List.set_cons_succ, i64_w, i32_w]
              rfl
             refine pure_ (i := 14) (N := some 97) (v := undef) (a' := ?_) #[true, true, true, true, true, true, true, true, true, true, true, true, true, true, true, false, false, false] rfl rfl (any_of HT_.out (by kernel_rfl)) (fun _ _ _ h => h) (Or.inr ⟨by rfl, rfl⟩) ?_ ?_
             rotate_left
             ·simp only [Act.put, List.setIfInBounds_toArray, List.set_cons_zero, List.set_cons_succ, i64_w, i32_w]
              rfl
             refine pure_ (i := 15) (N := some 98) (v := undef) (a' := ?_) #[true, true, true, true, true, true, true, true, true, true, true, true, true, true, true, true, false, false] rfl rfl (any_of HT_.out (by kernel_rfl)) (fun _ _ _ h => h) (Or.inr ⟨by rfl, rfl⟩) ?_ ?_
             rotate_left
             ·simp only [Act.put, List.setIfInBounds_toArray, List.set_cons_zero, List.set_cons_succ, i64_w, i32_w]
              rfl
             refine pure_ (i := 16) (N := some 99) (v := ?_) (a' := ?_) #[true, true, true, true, true, true, true, true, true, true, true, true, true, true, true, true, true, false] rfl rfl (any_of HT_.out (by kernel_rfl)) (fun _ _ _ h => h) (Or.inl ⟨by rfl, ?_⟩) ?_ ?_
             rotate_left
             ·intro w'
              go_simp
              with_reducible rfl
             rotate_left
             ·simp only [Act.put, List.setIfInBounds_toArray, List.set_cons_zero, List.set_cons_succ, i64_w, i32_w]
              rfl
             refine pure_ (i := 17) (N := some 100) (v := ?_) (a' := ?_) #[true, true, true, true, true, true, true, true, true, true, true, true, true, true, true, true, true, true] rfl rfl (any_of HT_.out (by kernel_rfl)) (fun _ _ _ h => h) (Or.inl ⟨by rfl, ?_⟩) ?_ ?_
             rotate_left
             ·intro w'
              go_simp
              with_reducible rfl
             rotate_left
             ·simp only [Act.put, List.setIfInBounds_toArray, List.set_cons_zero, List.set_cons_succ, i64_w, i32_w]
              rfl
             refine done_ (done_of HT_.out (by kernel_rfl)) ?_
             have hnb67 := NB516_504.out
             have hnc67 := NB504_516.out
             have hnb68 := NB516_513.out
             have hnc68 := NB513_516.out
             have hnb69 := NB516_519.out
             have hnc69 := NB519_516.out
             obtain ⟨hcz70_0, hcz70_1, hfz70_0, hfz70_1⟩ := cz2 (W := w66) BK516
             have hnb71 := NB504_513.out
             have hnc71 := NB513_504.out
             have hnb72 := NB504_519.out
             have hnc72 := NB519_504.out
             obtain ⟨hcz73_0, hcz73_1, hfz73_0, hfz73_1⟩ := cz2 (W := w66) BK504
             try go_wp2
             refine bodyPost_ret (results_ct rfl _ _ gb504 28 #[.string t514, .int .i64 t515] (0, 0) _ rfl bk Tryd.underlying28 rfl (by kernel_rfl)) rfl ?_
             exact ⟨ez, bz⟩
           ·rw [if_neg c46] at H
            obtain ⟨c46b0, c46b1⟩ := eF c46
            simp only [Option.some.injEq, Prod.mk.injEq] at H
            obtain ⟨rfl, rfl, rfl⟩ := H
            try go_wp2
            replace BK504 := Aside0.mk (blk_drew BK504.out)
            replace BK513 := Aside0.mk (blk_drew BK513.out)
            replace BK516 := Aside0.mk (blk_drew BK516.out)
            replace BK519 := Aside0.mk (blk_drew BK519.out)
            replace HB := Aside0.mk (below_drew1 HB.out)
            refine start_ (n := 18) (S := fun w' => True) (ds := []) #[false, false, false, false, false, false, false, false, false, false, false, false, false, false, false, false, false, false] (by kernel_rfl) rfl rfl trivial (fun hHeld => ?_); refine with_tabW platenref05_Shortest.tab16 platenref05_Shortest.bits16 (fun HT_ HW_ => ?_)
            generalize wc.drew = w74 at BK504 BK513 BK516 BK519 HB hHeld ⊢
            refine pure_ (i := 0) (N := some 83) (v := ?_) (a' := ?_) #[true, false, false, false, false, false, false, false, false, false, false, false, false, false, false, false, false, false] rfl rfl (any_of HT_.out (by kernel_rfl)) (fun _ _ _ h => h) (Or.inl ⟨by rfl, ?_⟩) ?_ ?_
            rotate_left
            ·intro w'
             go_simp
             with_reducible rfl
            rotate_left
            ·simp only [Act.put, List.setIfInBounds_toArray, List.set_cons_zero, List.set_cons_succ, i64_w, i32_w]
             rfl
            refine pure_ (i := 1) (N := some 84) (v := ?_) (a' := ?_) #[true, true, false, false, false, false, false, false, false, false, false, false, false, false, false, false, false, false] rfl rfl (any_of HT_.out (by kernel_rfl)) (fun _ _ _ h => h) (Or.inl ⟨by rfl, ?_⟩) ?_ ?_
            rotate_left
            ·intro w'
             go_simp
             with_reducible rfl
            rotate_left
            ·simp only [Act.put, List.setIfInBounds_toArray, List.set_cons_zero, List.set_cons_succ, i64_w, i32_w]
             rfl
            refine pure_ (i := 2) (N := some 85) (v := ?_) (a' := ?_) #[true, true, true, false, false, false, false, false, false, false, false, false, false, false, false, false, false, false] rfl rfl (any_of HT_.out (by kernel_rfl)) (fun _ _ _ h => h) (Or.inl ⟨by rfl, ?_⟩) ?_ ?_
            rotate_left
            ·intro w'
             go_simp
             with_reducible rfl
            rotate_left
            ·simp only [Act.put, List.setIfInBounds_toArray, List.set_cons_zero, List.set_cons_succ, i64_w, i32_w]
             rfl
            refine pure_ (i := 3) (N := some 86) (v := ?_) (a' := ?_) #[true, true, true, true, false, false, false, false, false, false, false, false, false, false, false, false, false, false] rfl rfl (any_of HT_.out (by kernel_rfl)) (fun _ _ _ h => h) (Or.inl ⟨by rfl, ?_⟩) ?_ ?_
            rotate_left
            ·intro w'
             go_simp
             with_reducible rfl
            rotate_left
            ·simp only [Act.put, List.setIfInBounds_toArray, List.set_cons_zero, List.set_cons_succ, i64_w, i32_w]
             rfl
            refine pure_ (i := 4) (N := some 87) (v := undef) (a' := ?_) #[true, true, true, true, true, false, false, false, false, false, false, false, false, false, false, false, false, false] rfl rfl (any_of HT_.out (by kernel_rfl)) (fun _ _ _ h => h) (Or.inr ⟨by rfl, rfl⟩) ?_ ?_
            rotate_left
            ·simp only [Act.put, List.setIfInBounds_toArray, List.set_cons_zero, List.set_cons_succ, i64_w, i32_w]
             rfl
            refine pure_ (i := 5) (N := some 88) (v := undef) (a' := ?_) #[true, true, true, true, true, true, false, false, false, false, false, false, false, false, false, false, false, false] rfl rfl (any_of HT_.out (by kernel_rfl)) (fun _ _ _ h => h) (Or.inr ⟨by rfl, rfl⟩) ?_ ?_
            rotate_left
            ·simp only [Act.put, List.setIfInBounds_toArray, List.set_cons_zero, List.set_cons_succ, i64_w, i32_w]
             rfl
            refine pure_ (i := 6) (N := some 89) (v := undef) (a' := ?_) #[true, true, true, true, true, true, true, false, false, false, false, false, false, false, false, false, false, false] rfl rfl (any_of HT_.out (by kernel_rfl)) (fun _ _ _ h => h) (Or.inr ⟨by rfl, rfl⟩) ?_ ?_
            rotate_left
            ·simp only [Act.put, List.setIfInBounds_toArray, List.set_cons_zero, List.set_cons_succ, i64_w, i32_w]
             rfl
            refine pure_ (i := 7) (N := some 90) (v := undef) (a' := ?_) #[true, true, true, true, true, true, true, true, false, false, false, false, false, false, false, false, false, false] rfl rfl (any_of HT_.out (by kernel_rfl)) (fun _ _ _ h => h) (Or.inr ⟨by rfl, rfl⟩) ?_ ?_
            rotate_left
            ·simp only [Act.put, List.setIfInBounds_toArray, List.set_cons_zero, List.set_cons_succ, i64_w, i32_w]
             rfl
            refine pure_ (i := 8) (N := some 91) (v := undef) (a' := ?_) #[true, true, true, true, true, true, true, true, true, false, false, false, false, false, false, false, false, false] rfl rfl (any_of HT_.out (by kernel_rfl)) (fun _ _ _ h => h) (Or.inr ⟨by rfl, rfl⟩) ?_ ?_
            rotate_left
            ·simp only [Act.put, List.setIfInBounds_toArray, List.set_cons_zero, List.set_cons_succ, i64_w, i32_w]
             rfl
            refine pure_ (i := 9) (N := some 92) (v := undef) (a' := ?_) #[true, true, true, true, true, true, true, true, true, true, false, false, false, false, false, false, false, false] rfl rfl (any_of HT_.out (by kernel_rfl)) (fun _ _ _ h => h) (Or.inr ⟨by rfl, rfl⟩) ?_ ?_
            rotate_left
            ·simp only [Act.put, List.setIfInBounds_toArray, List.set_cons_zero, List.set_cons_succ, i64_w, i32_w]
             rfl
            refine pure_ (i := 10) (N := some 93) (v := undef) (a' := ?_) #[true, true, true, true, true, true, true, true, true, true, true, false, false, false, false, false, false, false] rfl rfl (any_of HT_.out (by kernel_rfl)) (fun _ _ _ h => h) (Or.inr ⟨by rfl, rfl⟩) ?_ ?_
            rotate_left
            ·simp only [Act.put, List.setIfInBounds_toArray, List.set_cons_zero, List.set_cons_succ, i64_w, i32_w]
             rfl
            refine pure_ (i := 11) (N := some 94) (v := undef) (a' := ?_) #[true, true, true, true, true, true, true, true, true, true, true, true, false, false, false, false, false, false] rfl rfl (any_of HT_.out (by kernel_rfl)) (fun _ _ _ h => h) (Or.inr ⟨by rfl, rfl⟩) ?_ ?_
            rotate_left
            ·simp only [Act.put, List.setIfInBounds_toArray, List.set_cons_zero, List.set_cons_succ, i64_w, i32_w]
             rfl
            refine pure_ (i := 12) (N := some 95) (v := undef) (a' := ?_) #[true, true, true, true, true, true, true, true, true, true, true, true, true, false, false, false, false, false] rfl rfl (any_of HT_.out (by kernel_rfl)) (fun _ _ _ h => h) (Or.inr ⟨by rfl, rfl⟩) ?_ ?_
            rotate_left
            ·simp only [Act.put, List.setIfInBounds_toArray, List.set_cons_zero, List.set_cons_succ, i64_w, i32_w]
             rfl
            refine pure_ (i := 13) (N := some 96) (v := undef) (a' := ?_) #[true, true, true, true, true, true, true, true, true, true, true, true, true, true, false, false, false, false] rfl rfl (any_of HT_.out (by kernel_rfl)) (fun _ _ _ h => h) (Or.inr ⟨by rfl, rfl⟩) ?_ ?_
            rotate_left
            ·simp only [Act.put, List.setIfInBounds_toArray, List.set_cons_zero, List.set_cons_succ, i64_w, i32_w]
             rfl
            refine pure_ (i := 14) (N := some 97) (v := undef) (a' := ?_) #[true, true, true, true, true, true, true, true, true, true, true, true, true, true, true, false, false, false] rfl rfl (any_of HT_.out (by kernel_rfl)) (fun _ _ _ h => h) (Or.inr ⟨by rfl, rfl⟩) ?_ ?_
            rotate_left
            ·simp only [Act.put, List.setIfInBounds_toArray, List.set_cons_zero, List.set_cons_succ, i64_w, i32_w]
             rfl
            refine pure_ (i := 15) (N := some 98) (v := undef) (a' := ?_) #[true, true, true, true, true, true, true, true, true, true, true, true, true, true, true, true, false, false] rfl rfl (any_of HT_.out (by kernel_rfl)) (fun _ _ _ h => h) (Or.inr ⟨by rfl, rfl⟩) ?_ ?_
            rotate_left
            ·simp only [Act.put, List.setIfInBounds_toArray, List.set_cons_zero, List.set_cons_succ, i64_w, i32_w]
             rfl
            refine pure_ (i := 16) (N := some 99) (v := undef) (a' := ?_) #[true, true, true, true, true, true, true, true, true, true, true, true, true, true, true, true, true, false] rfl rfl (any_of HT_.out (by kernel_rfl)) (fun _ _ _ h => h) (Or.inr ⟨by rfl, rfl⟩) ?_ ?_
            rotate_left
            ·simp only [Act.put, List.setIfInBounds_toArray, List.set_cons_zero, List.set_cons_succ, i64_w, i32_w]
             rfl
            refine pure_ (i := 17) (N := some 100) (v := ?_) (a' := ?_) #[true, true, true, true, true, true, true, true, true, true, true, true, true, true, true, true, true, true] rfl rfl (any_of HT_.out (by kernel_rfl)) (fun _ _ _ h => h) (Or.inl ⟨by rfl, ?_⟩) ?_ ?_
            rotate_left
            ·intro w'
             go_simp
             with_reducible rfl
            rotate_left
            ·simp only [Act.put, List.setIfInBounds_toArray, List.set_cons_zero, List.set_cons_succ, i64_w, i32_w]
             rfl
            refine done_ (done_of HT_.out (by kernel_rfl)) ?_
            have hnb75 := NB519_504.out
            have hnc75 := NB504_519.out
            have hnb76 := NB519_513.out
            have hnc76 := NB513_519.out
            have hnb77 := NB519_516.out
            have hnc77 := NB516_519.out
            obtain ⟨hcz78_0, hcz78_1, hfz78_0, hfz78_1⟩ := cz2 (W := w74) BK519
            have hnb79 := NB504_513.out
            have hnc79 := NB513_504.out
            have hnb80 := NB504_516.out
            have hnc80 := NB516_504.out
            obtain ⟨hcz81_0, hcz81_1, hfz81_0, hfz81_1⟩ := cz2 (W := w74) BK504
            try go_wp2
            refine bodyPost_ret (results_ct rfl _ _ gb504 28 #[.string t517, .int .i64 t518] (0, 0) _ rfl bk Tryd.underlying28 rfl (by kernel_rfl)) rfl ?_
            exact ⟨ez, bz⟩
       ·rw [if_neg c16] at H
        exact absurd H (by simp)
      ·rw [if_neg c15] at H
       exact absurd H (by simp)
     ·rw [if_neg c14] at H
      have c14b0 := decide_eq_false c14
      clear c14
      simp only [Option.some.injEq, Prod.mk.injEq] at H
      obtain ⟨rfl, rfl, rfl⟩ := H
      have hnb82 := NB513_504.out
      have hnc82 := NB504_513.out
      obtain ⟨hcz83_0, hcz83_1, hfz83_0, hfz83_1⟩ := cz2 (W := wr) BK513
      obtain ⟨hcz84_0, hcz84_1, hfz84_0, hfz84_1⟩ := cz2 (W := wr) BK504
      go_wp2
      refine bodyPost_ret (results_ct rfl _ _ gb504 28 #[.string t511, .int .i64 t512] (0, 0) _ rfl bk Tryd.underlying28 rfl (by kernel_rfl)) rfl ?_
      exact ⟨ez, bz⟩
  ·rw [if_neg c7] at H
   obtain ⟨c7b0, c7b1⟩ := eF c7
   try first | rw [c7b0] | rw [c7b1]
   simp only [Option.some.injEq, Prod.mk.injEq] at H
   obtain ⟨rfl, rfl, rfl⟩ := H
   obtain ⟨hcz85_0, hcz85_1, hfz85_0, hfz85_1⟩ := cz2 (W := w4) BK504
   go_wp2
   refine bodyPost_ret (results_ct rfl _ _ gb504 28 #[.string (⟨#[]⟩ : ByteArray), .int .i64 0] (0, 0) _ rfl bk Tryd.underlying28 rfl (by kernel_rfl)) rfl ?_
   exact ⟨ez, bz⟩
 ·replace c5 := Bool.eq_false_iff.mpr c5
  subst c5
  replace H := hF H
  simp only [Option.some.injEq, Prod.mk.injEq] at H
  obtain ⟨rfl, rfl, rfl⟩ := H
  obtain ⟨hcz86_0, hcz86_1, hfz86_0, hfz86_1⟩ := cz2 (W := w4) BK504
  go_wp2
  refine bodyPost_ret (results_ct rfl _ _ gb504 28 #[.string (⟨#[]⟩ : ByteArray), .int .i64 0] (0, 0) _ rfl bk Tryd.underlying28 rfl (by kernel_rfl)) rfl ?_
  exact ⟨ez, bz⟩
end Go.Proofs.YtmeapdchnnpceaaDoor.Fn
end
