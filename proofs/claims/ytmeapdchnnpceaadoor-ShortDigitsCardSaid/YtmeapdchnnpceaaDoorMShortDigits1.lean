/- The law ShortDigits: the walks through its functions and its plain law (part 1). Own texts and the kit's printed words for this seat, without what the law does not use: put together by merge.py (of this work). -/
import Derived.Test.YtmeapdchnnpceaaDoorMShortDigits0
section
namespace Go.Proofs.YtmeapdchnnpceaaDoor.Fn
open Go.RowKit Go.Proofs.YtmeapdchnnpceaaDoorW.PrintWords Go.Proofs.YtmeapdchnnpceaaDoorW.PrintLast Go.Proofs.YtmeapdchnnpceaaDoorW.PrintMore
attribute [local go_sem] min2_int min_two
set_option linter.unusedVariables false
set_option linter.unusedSimpArgs false
def bigdec_Norm.l0 : Nat → List Int → Int → Int → ByteArray → Int → Option (ByteArray × Int × Int)
 | 0, _, _, _, _, _ => none
 | k + 1, x13, x14, x15, x107000, x107001 => if x15 < x14 then (if 0 ≤ x15 then (if x15 < (x13.length : Int) then (if (rd x13 x15) < 48 then (some ((⟨#[]⟩ : ByteArray), 0, 4)) else (if (rd x13 x15) > 57 then (some ((⟨#[]⟩ : ByteArray), 0, 4)) else (bigdec_Norm.l0 k x13 x14 (wrap64 (x15 + 1)) x107000 x107001))) else (none)) else (none)) else (if x107001 < (-5000) then (some ((⟨#[]⟩ : ByteArray), 0, 2)) else (if x107001 > 5000 then (some ((⟨#[]⟩ : ByteArray), 0, 2)) else ((bigdec_form.f x107000 x107001).bind fun bt112 => (some (bt112.1, bt112.2, 0)))))
def bigdec_Norm.f (k : Nat) (a0_0 : ByteArray) (a0_1 : Int) : Option (ByteArray × Int × Int) := if (a0_0.size : Int) > 2000 then (some ((⟨#[]⟩ : ByteArray), 0, 2)) else (if a0_0.size ≤ 9223372036854775807 then ((some (bytesOf a0_0 : List Int)).bind fun y108 => (bigdec_Norm.l0 k y108 (y108.length : Int) 0 a0_0 a0_1)) else (none))
set_option maxHeartbeats 8000000 in
set_option maxRecDepth 100000 in
theorem bigdec_Norm.calls (k : Nat) (a0_0 : ByteArray) (a0_1 : Int) (r1 : ByteArray) (r2 : Int) (r3 : Int) (w : World) (h : bigdec_Norm.f k a0_0 a0_1 = some (r1, r2, r3)) :
  Calls Tryd.prog 32 #[.agg #[.string a0_0, .int .i64 a0_1]] w fun e w' => e = .returned (.tuple #[.agg #[.string r1, .int .i64 r2], .int .i64 r3]) ∧ Below w.heap.size w w' := by
 have hu28 := Tryd.underlying28
 have HB := Aside0.mk (Below.refl w.heap.size w)
 have H : (if (a0_0.size : Int) > 2000 then (some ((⟨#[]⟩ : ByteArray), 0, 2)) else (if a0_0.size ≤ 9223372036854775807 then ((some (bytesOf a0_0 : List Int)).bind fun y108 => (bigdec_Norm.l0 k y108 (y108.length : Int) 0 a0_0 a0_1)) else (none))) = some (r1, r2, r3) := h
 clear h
 go_enter Tryd.func32, Tryd.ntmps32
 go_upto_if 9 with (first | ((with_reducible refine gate_dst (N := 1) rfl ?_); refine box_event rfl (N := 1) rfl (cs := #[.string a0_0, .int .i64 a0_1]) (t := 28) gz ?_; intro gb106 hg w2 hbox hb; have GE106 := gN bz hg; have BK106 := Aside0.mk hbox; replace HB := bN bz hb; clear hb hbox hg) | ((with_reducible refine gate_dst (N := 2) rfl ?_); refine box_event rfl (N := 2) rfl (cs := #[.string (⟨#[]⟩ : ByteArray), .int .i64 0]) (t := 28) gz ?_; intro gb107 hg w3 hbox hb; have GE107 := gN bz hg; have NB106_107 := lN (g := gb106) (cs := #[.string a0_0, .int .i64 a0_1]) hg bk; have NB107_106 := rN (g := gb106) (cs := #[.string a0_0, .int .i64 a0_1]) hg bk; replace BK106 := kN (g := gb106) (cs := #[.string a0_0, .int .i64 a0_1]) hb bk; have BK107 := Aside0.mk hbox; replace HB := bN bz hb; clear hb hbox hg; have hnb4 := NB106_107.out; have hnc4 := NB107_106.out; obtain ⟨hcz5_0, hcz5_1, hfz5_0, hfz5_1⟩ := cz2 (W := w3) BK106))
 (try simp only [Act.put, List.setIfInBounds_toArray, List.set_cons_zero, List.set_cons_succ])
 by_cases c6 : (a0_0.size : Int) > 2000
 ·rw [if_pos c6] at H
  have c6b0 : decide (2000 < (a0_0.size : Int)) = true := decide_eq_true c6
  have c6b1 : decide (2000 < a0_0.size) = true := decide_eq_true (by omega)
  clear c6
  try first | rw [c6b0] | rw [c6b1]
  simp only [Option.some.injEq, Prod.mk.injEq] at H
  obtain ⟨rfl, rfl, rfl⟩ := H
  have hnb7 := NB107_106.out
  have hnc7 := NB106_107.out
  obtain ⟨hcz8_0, hcz8_1, hfz8_0, hfz8_1⟩ := cz2 (W := w3) BK107
  go_wp2
  refine bodyPost_ret (results_ct rfl _ _ gb107 28 #[.string (⟨#[]⟩ : ByteArray), .int .i64 0] (0, 0) _ rfl bk Tryd.underlying28 rfl (by kernel_rfl)) rfl ?_
  exact ⟨ez, bz⟩
 ·rw [if_neg c6] at H
  have c6b0 : decide (2000 < (a0_0.size : Int)) = false := decide_eq_false c6
  have c6b1 : decide (2000 < a0_0.size) = false := decide_eq_false (by omega)
  clear c6
  try first | rw [c6b0] | rw [c6b1]
  by_cases c9 : a0_0.size ≤ 9223372036854775807
  ·rw [if_pos c9] at H
   have c9b0 := eq_true c9
   have c9b1 : decide (a0_0.size ≤ 9223372036854775807) = true := decide_eq_true c9
   try have c9b2 : (9223372036854775807 < a0_0.size) = False := eq_false (Nat.not_lt.2 c9)
   clear c9
   obtain ⟨y108, hy108⟩ : ∃ y_ : List Int, y_ = (bytesOf a0_0) := ⟨_, rfl⟩
   replace H : (bigdec_Norm.l0 k y108 (y108.length : Int) 0 a0_0 a0_1) = some (r1, r2, r3) := by first | (rw [hy108]; with_reducible exact H) | (have H2_ := (Option.bind_some _ _).symm.trans H; rw [hy108]; with_reducible exact H2_) | (have H2_ := (Option.bind_some _ _).symm.trans H; with_reducible exact H2_) | with_reducible exact H | (rw [hy108]; exact H) | exact H
   have Ny108 := Aside0.mk hy108
   clear hy108
   have H' := Aside0.mk H
   clear H
   have hnb10 := NB106_107.out
   have hnc10 := NB107_106.out
   obtain ⟨hcz11_0, hcz11_1, hfz11_0, hfz11_1⟩ := cz2 (W := w3) BK106
   go_wp2_with (first | ((with_reducible refine gate_dst (N := 13) rfl ?_); refine Kd.V_conv _ rfl (N := 13) rfl 9 48 5 _ rfl a0_0 rfl Tryd.underlying9 Tryd.underlying48 Tryd.underlying5 (of_decide_eq_true (by first | (with_reducible assumption) | assumption)) (ok := fun k_ => w3.heap.size ≤ k_) (Nat.le_refl _) (Below.refl _ _) (Nat.le_refl _) ?_; intro v109 w12 ho13 hb hg_ hnew_; clear hg_ hnew_; (first | rw [← Ny108.out] at ho13 | (simp only [Int.reduceToNat] at ho13; rw [← Ny108.out] at ho13)); have n0_ := Aside0.mk (Kd.V_lower (Kd.V_mono (ok' := fun k_ => k_ ≠ gb106 ∧ k_ ≠ gb107) ho13 (fun k_ hk_ => ⟨(Kd.freshB (g := gb106) (o := .cells #[.string a0_0, .int .i64 a0_1] 28 (0, 0)) bk k_ hk_), (Kd.freshB (g := gb107) (o := .cells #[.string (⟨#[]⟩ : ByteArray), .int .i64 0] 28 (0, 0)) bk k_ hk_)⟩)) (below_size bz)); have n1_ := Aside0.mk (blk_below (g := gb106) (o := .cells #[.string a0_0, .int .i64 a0_1] 28 (0, 0)) bk hb); have n2_ := Aside0.mk (blk_below (g := gb107) (o := .cells #[.string (⟨#[]⟩ : ByteArray), .int .i64 0] 28 (0, 0)) bk hb); have n3_ := Aside0.mk (below_step bz hb); clear BK106; clear BK107; clear HB; have HO110 := n0_; have BK106 := n1_; have BK107 := n2_; have HB := n3_; clear n0_ n1_ n2_ n3_; clear hb ho13; obtain ⟨Ao14, co14, eo14⟩ := Kd.V_slice HO110.out; subst eo14))
   go_loopg [15] k (fun kq v15 w' => ∃ (x15_1 : Int) (x108000_1 : ByteArray) (x108001_1 : Int), v15 = .int .i64 x15_1 ∧ Aside0 (bigdec_Norm.l0 kq y108 (y108.length : Int) x15_1 a0_0 a0_1 = some (r1, r2, r3)) ∧ Aside0 (kq ≤ k) ∧ Aside0 (Kd.V (Kd.int .u8) 5 w' w.heap.size (fun k_ => k_ ≠ gb106 ∧ k_ ≠ gb107) (.slice Ao14 y108.length co14) y108) ∧ Aside0 (w'.heap[gb106]? = some (.cells #[.string a0_0, .int .i64 a0_1] 28 (0, 0))) ∧ Aside0 (w'.heap[gb107]? = some (.cells #[.string x108000_1, .int .i64 x108001_1] 28 (0, 0))) ∧ Aside0 (Below w.heap.size w w'))
   case atStart => exact ⟨(0), ((⟨#[]⟩ : ByteArray)), (0), rz, H', ⟨Nat.le_refl _⟩, ⟨by (with_reducible repeat (first | apply Kd.V_alloc | apply Kd.V_drewN | apply Kd.V_drew)); exact HO110.out⟩, ⟨bk⟩, ⟨bk⟩, ⟨bz⟩⟩
   case round =>
    clear H'
    try clear c6
    try clear c6b0
    try clear c6b1
    try clear c9
    try clear c9b0
    try clear c9b1
    try clear c9b2
    try clear hcz11_0 hcz11_1 hfz11_0 hfz11_1
    try clear hcz5_0 hcz5_1 hfz5_0 hfz5_1
    try clear hcz8_0 hcz8_1 hfz8_0 hfz8_1
    obtain ⟨x15_1, x108000_1, x108001_1, rfl, HA, HK1, HO_13, BK106, BK107, HB⟩ := hrel
    cases gk with
    | zero => exact absurd HA.out (by simp [bigdec_Norm.l0])
    | succ k1 =>
     have H := HA.out
     clear HA
     simp only [bigdec_Norm.l0] at H
     by_cases c15 : x15_1 < (y108.length : Int)
     ·rw [if_pos c15] at H
      have c15b0 := decide_eq_true c15
      clear c15
      by_cases c16 : 0 ≤ x15_1
      ·rw [if_pos c16] at H
       have c16b0 := decide_eq_true c16
       clear c16
       by_cases c17 : x15_1 < (y108.length : Int)
       ·rw [if_pos c17] at H
        have c17b0 := decide_eq_true c17
        clear c17
        by_cases c18 : (rd y108 x15_1) < 48
        ·rw [if_pos c18] at H
         have c18b0 := decide_eq_true c18
         clear c18
         simp only [Option.some.injEq, Prod.mk.injEq] at H
         obtain ⟨rfl, rfl, rfl⟩ := H
         have p111 : 0 ≤ (x15_1 : Int) := of_decide_eq_true (by first | (with_reducible assumption) | assumption)
         have q111 : x15_1 < (y108.length : Int) := of_decide_eq_true (by first | (with_reducible assumption) | assumption)
         obtain ⟨ad111, e111, hx111_0⟩ := Kd.at_int (Kd.V_reads' HO_13.out).2.2 x15_1 p111 q111
         cases e111
         replace p111 := eq_true p111
         replace q111 := eq_true q111
         have hnb19 := NB107_106.out
         have hnc19 := NB106_107.out
         obtain ⟨hcz20_0, hcz20_1, hfz20_0, hfz20_1⟩ := cz2 (W := wr) BK107
         go_wp2
         refine bodyPost_ret (results_ct rfl _ _ gb107 28 #[.string (⟨#[]⟩ : ByteArray), .int .i64 0] (0, 0) _ rfl bk Tryd.underlying28 rfl (by kernel_rfl)) rfl ?_
         exact ⟨ez, bz⟩
        ·rw [if_neg c18] at H
         have c18b0 := decide_eq_false c18
         clear c18
         by_cases c21 : (rd y108 x15_1) > 57
         ·rw [if_pos c21] at H
          have c21b0 : decide (57 < (rd y108 x15_1)) = true := decide_eq_true c21
          clear c21
          simp only [Option.some.injEq, Prod.mk.injEq] at H
          obtain ⟨rfl, rfl, rfl⟩ := H
          have p111 : 0 ≤ (x15_1 : Int) := of_decide_eq_true (by first | (with_reducible assumption) | assumption)
          have q111 : x15_1 < (y108.length : Int) := of_decide_eq_true (by first | (with_reducible assumption) | assumption)
          obtain ⟨ad111, e111, hx111_0⟩ := Kd.at_int (Kd.V_reads' HO_13.out).2.2 x15_1 p111 q111
          cases e111
          replace p111 := eq_true p111
          replace q111 := eq_true q111
          have hnb22 := NB107_106.out
          have hnc22 := NB106_107.out
          obtain ⟨hcz23_0, hcz23_1, hfz23_0, hfz23_1⟩ := cz2 (W := wr) BK107
          go_wp2
          refine bodyPost_ret (results_ct rfl _ _ gb107 28 #[.string (⟨#[]⟩ : ByteArray), .int .i64 0] (0, 0) _ rfl bk Tryd.underlying28 rfl (by kernel_rfl)) rfl ?_
          exact ⟨ez, bz⟩
         ·rw [if_neg c21] at H
          have c21b0 : decide (57 < (rd y108 x15_1)) = false := decide_eq_false c21
          clear c21
          have H' := Aside0.mk H
          clear H
          have p111 : 0 ≤ (x15_1 : Int) := of_decide_eq_true (by first | (with_reducible assumption) | assumption)
          have q111 : x15_1 < (y108.length : Int) := of_decide_eq_true (by first | (with_reducible assumption) | assumption)
          obtain ⟨ad111, e111, hx111_0⟩ := Kd.at_int (Kd.V_reads' HO_13.out).2.2 x15_1 p111 q111
          cases e111
          replace p111 := eq_true p111
          replace q111 := eq_true q111
          go_wp2
          go_roundg k1
          case measure => have := HK1.out; omega
          case rel => exact ⟨(wrap64 (x15_1 + 1)), (x108000_1), (x108001_1), rz, H', ⟨by have := HK1.out; omega⟩, ⟨by (with_reducible repeat (first | apply Kd.V_alloc | apply Kd.V_drewN | apply Kd.V_drew)); exact HO_13.out⟩, ⟨bk⟩, ⟨bk⟩, ⟨bz⟩⟩
       ·rw [if_neg c17] at H
        exact absurd H (by simp)
      ·rw [if_neg c16] at H
       exact absurd H (by simp)
     ·rw [if_neg c15] at H
      have c15b0 := decide_eq_false c15
      clear c15
      by_cases c24 : a0_1 < (-5000)
      ·rw [if_pos c24] at H
       have c24b0 := decide_eq_true c24
       clear c24
       simp only [Option.some.injEq, Prod.mk.injEq] at H
       obtain ⟨rfl, rfl, rfl⟩ := H
       have hnb25 := NB106_107.out
       have hnc25 := NB107_106.out
       obtain ⟨hcz26_0, hcz26_1, hfz26_0, hfz26_1⟩ := cz2 (W := wr) BK106
       obtain ⟨hcz27_0, hcz27_1, hfz27_0, hfz27_1⟩ := cz2 (W := wr) BK107
       go_wp2
       refine bodyPost_ret (results_ct rfl _ _ gb107 28 #[.string (⟨#[]⟩ : ByteArray), .int .i64 0] (0, 0) _ rfl bk Tryd.underlying28 rfl (by kernel_rfl)) rfl ?_
       exact ⟨ez, bz⟩
      ·rw [if_neg c24] at H
       have c24b0 := decide_eq_false c24
       clear c24
       by_cases c28 : a0_1 > 5000
       ·rw [if_pos c28] at H
        have c28b0 : decide (5000 < a0_1) = true := decide_eq_true c28
        clear c28
        simp only [Option.some.injEq, Prod.mk.injEq] at H
        obtain ⟨rfl, rfl, rfl⟩ := H
        have hnb29 := NB106_107.out
        have hnc29 := NB107_106.out
        obtain ⟨hcz30_0, hcz30_1, hfz30_0, hfz30_1⟩ := cz2 (W := wr) BK106
        obtain ⟨hcz31_0, hcz31_1, hfz31_0, hfz31_1⟩ := cz2 (W := wr) BK107
        go_wp2
        refine bodyPost_ret (results_ct rfl _ _ gb107 28 #[.string (⟨#[]⟩ : ByteArray), .int .i64 0] (0, 0) _ rfl bk Tryd.underlying28 rfl (by kernel_rfl)) rfl ?_
        exact ⟨ez, bz⟩
       ·rw [if_neg c28] at H
        have c28b0 : decide (5000 < a0_1) = false := decide_eq_false c28
        clear c28
        replace H := bs H
        obtain ⟨⟨t112, t113⟩, A32, H⟩ := H
        dsimp only at H
        simp only [Option.some.injEq, Prod.mk.injEq] at H
        obtain ⟨rfl, rfl, rfl⟩ := H
        have hnb33 := NB106_107.out
        have hnc33 := NB107_106.out
        obtain ⟨hcz34_0, hcz34_1, hfz34_0, hfz34_1⟩ := cz2 (W := wr) BK106
        go_wp2_with (first | ((with_reducible refine gate_callee (f := 51) rfl ?_); refine goesL_ (some 37) rfl rfl Tryd.func51 (by kernel_rfl) rfl #[.agg #[.string a0_0, .int .i64 a0_1]] rfl lz ?_; (with_reducible refine (bigdec_form.calls a0_0 a0_1 t112 t113 _ A32.out).mono ?_); rintro e w35 ⟨rfl, hb⟩; refine ⟨_, rfl, ?_⟩; have n0_ := Aside0.mk (Kd.V_below (by (with_reducible repeat (first | apply Kd.V_alloc | apply Kd.V_drewN | apply Kd.V_drew)); exact HO_13.out) hb); have n1_ := Aside0.mk (blk_below (g := gb106) (o := .cells #[.string a0_0, .int .i64 a0_1] 28 (0, 0)) bk hb); have n2_ := Aside0.mk (blk_below (g := gb107) (o := .cells #[.string x108000_1, .int .i64 x108001_1] 28 (0, 0)) bk hb); have n3_ := Aside0.mk (below_step bz hb); clear HO_13; clear BK106; clear BK107; clear HB; have HO_13 := n0_; have BK106 := n1_; have BK107 := n2_; have HB := n3_; clear n0_ n1_ n2_ n3_; (try clear hb); (try clear hb2); (try clear hk); (try clear hi); obtain ⟨hcz36_0, hcz36_1, hfz36_0, hfz36_1⟩ := cz2 (W := w35) BK107))
        refine bodyPost_ret (results_ct rfl _ _ gb107 28 #[.string t112, .int .i64 t113] (0, 0) _ rfl bk Tryd.underlying28 rfl (by kernel_rfl)) rfl ?_
        exact ⟨ez, bz⟩
  ·rw [if_neg c9] at H
   exact absurd H (by simp)
end Go.Proofs.YtmeapdchnnpceaaDoor.Fn
end
section
namespace Go.Proofs.YtmeapdchnnpceaaDoor.Fn
open Go.RowKit Go.Proofs.YtmeapdchnnpceaaDoorW.PrintWords Go.Proofs.YtmeapdchnnpceaaDoorW.PrintLast Go.Proofs.YtmeapdchnnpceaaDoorW.PrintMore
attribute [local go_sem] min2_int min_two
set_option linter.unusedVariables false
set_option linter.unusedSimpArgs false
mutual
def platenref04_In.j1 : Nat → ByteArray → Int → Option (ByteArray × Int)
 | 0, _, _ => none
 | k + 1, x322000, x322001 => platenref04_In.l1 k x322000 x322001
def platenref04_In.l1 : Nat → ByteArray → Int → Option (ByteArray × Int)
 | 0, _, _ => none
 | k + 1, x322000, x322001 => if x322000.toList = ([] : List UInt8) then (some (x322000, 0)) else (if 0 ≤ (wrap64 ((x322000.size : Int) - 1)) then (if (wrap64 ((x322000.size : Int) - 1)) < (x322000.size : Int) then (if (bt x322000 (wrap64 ((x322000.size : Int) - 1))) = 48 then (if (wrap64 ((x322000.size : Int) - 1)) ≤ (x322000.size : Int) then (platenref04_In.l1 k (x322000.extract 0 ((wrap64 ((x322000.size : Int) - 1)) : Int).toNat) x322001) else (none)) else (some (x322000, x322001))) else (none)) else (none))
def platenref04_In.l0 : Nat → ByteArray → Int → Option (ByteArray × Int)
 | 0, _, _ => none
 | k + 1, x322000, x322001 => if x322000.toList = ([] : List UInt8) then (platenref04_In.j1 k x322000 x322001) else (if 0 < (x322000.size : Int) then (if (bt x322000 0) = 48 then (if 1 ≤ (x322000.size : Int) then (platenref04_In.l0 k (x322000.extract 1 x322000.size) (wrap64 (x322001 - 1))) else (none)) else (platenref04_In.j1 k x322000 x322001)) else (none))
end
def platenref04_In.f (k : Nat) (a0_0 : ByteArray) (a0_1 : Int) : Option (ByteArray × Int) := platenref04_In.l0 k a0_0 a0_1
set_option maxHeartbeats 8000000 in
set_option maxRecDepth 100000 in
theorem platenref04_In.calls (k : Nat) (a0_0 : ByteArray) (a0_1 : Int) (r1 : ByteArray) (r2 : Int) (w : World) (h : platenref04_In.f k a0_0 a0_1 = some (r1, r2)) :
  Calls Tryd.prog 46 #[.agg #[.string a0_0, .int .i64 a0_1]] w fun e w' => e = .returned (.agg #[.string r1, .int .i64 r2]) ∧ Below w.heap.size w w' := by
 have hu28 := Tryd.underlying28
 have HB := Aside0.mk (Below.refl w.heap.size w)
 have H : (platenref04_In.l0 k a0_0 a0_1) = some (r1, r2) := h
 clear h
 have HC2 := Aside0.mk H
 clear H
 go_enter Tryd.func46, Tryd.ntmps46
 go_upto_block 0 with (first | ((with_reducible refine gate_dst (N := 1) rfl ?_); (try (refine gate_guard (by rfl) ?_; dsimp only)); refine box_event rfl (N := 1) rfl (cs := #[.string a0_0, .int .i64 a0_1]) (t := 28) gz ?_; intro gb321 hg w3 hbox hb; have GE321 := gN bz hg; have BK321 := Aside0.mk hbox; replace HB := bN bz hb; clear hb hbox hg) | ((with_reducible refine gate_dst (N := 2) rfl ?_); (try (refine gate_guard (by rfl) ?_; dsimp only)); refine box_event rfl (N := 2) rfl (cs := #[.string (⟨#[]⟩ : ByteArray), .int .i64 0]) (t := 28) gz ?_; intro gb322 hg w4 hbox hb; have GE322 := gN bz hg; have NB321_322 := lN (g := gb321) (cs := #[.string a0_0, .int .i64 a0_1]) hg bk; have NB322_321 := rN (g := gb321) (cs := #[.string a0_0, .int .i64 a0_1]) hg bk; replace BK321 := kN (g := gb321) (cs := #[.string a0_0, .int .i64 a0_1]) hb bk; have BK322 := Aside0.mk hbox; replace HB := bN bz hb; clear hb hbox hg))
 (try simp only [Act.put, List.setIfInBounds_toArray, List.set_cons_zero, List.set_cons_succ])
 go_cut [] (fun wc => ∃ (kq : Nat) (x322000_1 : ByteArray) (x322001_1 : Int), Aside0 (platenref04_In.j1 kq x322000_1 x322001_1 = some (r1, r2)) ∧ Aside0 (kq ≤ k) ∧ Aside0 (wc.heap[gb321]? = some (.cells #[.string x322000_1, .int .i64 x322001_1] 28 (0, 0))) ∧ Aside0 (wc.heap[gb322]? = some (.cells #[.string (⟨#[]⟩ : ByteArray), .int .i64 0] 28 (0, 0))) ∧ Aside0 (Below w.heap.size w wc))
 case first =>
  have H := HC2.out
  clear HC2
  have H' := Aside0.mk H
  clear H
  go_wp2
  go_loopg [] k (fun kq w' => ∃ (x322000_1 : ByteArray) (x322001_1 : Int), Aside0 (platenref04_In.l0 kq x322000_1 x322001_1 = some (r1, r2)) ∧ Aside0 (kq ≤ k) ∧ Aside0 (w'.heap[gb321]? = some (.cells #[.string x322000_1, .int .i64 x322001_1] 28 (0, 0))) ∧ Aside0 (w'.heap[gb322]? = some (.cells #[.string (⟨#[]⟩ : ByteArray), .int .i64 0] 28 (0, 0))) ∧ Aside0 (Below w.heap.size w w'))
  case atStart => exact ⟨(a0_0), (a0_1), H', ⟨Nat.le_refl _⟩, ⟨bk⟩, ⟨bk⟩, ⟨bz⟩⟩
  case round =>
   clear H'
   obtain ⟨x322000_1, x322001_1, HA, HK1, BK321, BK322, HB⟩ := hrel
   cases gk with
   | zero => exact absurd HA.out (by simp [platenref04_In.l0])
   | succ k1 =>
    have H := HA.out
    clear HA
    simp only [platenref04_In.l0] at H
    by_cases c5 : x322000_1.toList = ([] : List UInt8)
    ·rw [if_pos c5] at H
     have c5b0 : (x322000_1.toList == ([] : List UInt8)) = true := beq_iff_eq.mpr c5
     have c5b1 : (x322000_1.toList != ([] : List UInt8)) = false := bne_eq_false_iff_eq.mpr c5
     have c5b7 : x322000_1.toList.isEmpty = true := by simpa using c5b0
     clear c5
     try first | rw [c5b0] | rw [c5b1] | rw [c5b7]
     have H' := Aside0.mk H
     clear H
     have hnb6 := NB321_322.out
     have hnc6 := NB322_321.out
     obtain ⟨hcz7_0, hcz7_1, hfz7_0, hfz7_1⟩ := cz2 (W := wr) BK321
     go_wp2
     go_meet
     case rel => exact ⟨_, (x322000_1), (x322001_1), H', ⟨by have := HK1.out; first | omega | exact Nat.le_refl _⟩, ⟨bk⟩, ⟨bk⟩, ⟨bz⟩⟩
    ·rw [if_neg c5] at H
     have c5b0 : (x322000_1.toList == ([] : List UInt8)) = false := beq_eq_false_iff_ne.mpr c5
     have c5b1 : (x322000_1.toList != ([] : List UInt8)) = true := bne_iff_ne.mpr c5
     have c5b7 : x322000_1.toList.isEmpty = false := by simpa using c5b0
     try first | rw [c5b0] | rw [c5b1] | rw [c5b7]
     by_cases c8 : 0 < (x322000_1.size : Int)
     ·rw [if_pos c8] at H
      have c8b0 := decide_eq_true c8
      have c8b1 : decide (0 < x322000_1.size) = true := decide_eq_true (by omega)
      clear c8
      by_cases c10 : (bt x322000_1 0) = 48
      ·rw [if_pos c10] at H
       obtain ⟨c10b0, c10b1⟩ := eT c10
       clear c10
       by_cases c11 : 1 ≤ (x322000_1.size : Int)
       ·rw [if_pos c11] at H
        have c11b0 := eq_true c11
        have c11b1 : decide (1 ≤ (x322000_1.size : Int)) = true := decide_eq_true c11
        clear c11
        have H' := Aside0.mk H
        clear H
        have hnb12 := NB321_322.out
        have hnc12 := NB322_321.out
        obtain ⟨hcz13_0, hcz13_1, hfz13_0, hfz13_1⟩ := cz2 (W := wr) BK321
        have p9 : 0 ≤ (0 : Int) := (by omega)
        have q9 : 0 < x322000_1.size := (by have : (0 : Int) < (x322000_1.size : Int) := of_decide_eq_true (by first | (with_reducible assumption) | assumption); omega)
        have hx9 : ∀ h : 0 < x322000_1.size, ((x322000_1[0]'h).toNat : Int) = bt x322000_1 0 := bt_at x322000_1 0
        clear p9
        have qi9 : (0 < (x322000_1.size : Int)) = True := eq_true (of_decide_eq_true (by first | (with_reducible assumption) | assumption))
        replace q9 := eq_true q9
        go_wp2
        go_roundg k1
        case measure => have := HK1.out; omega
        case rel => exact ⟨(x322000_1.extract 1 x322000_1.size), (wrap64 (x322001_1 - 1)), H', ⟨by have := HK1.out; omega⟩, ⟨bk⟩, ⟨bk⟩, ⟨bz⟩⟩
       ·rw [if_neg c11] at H
        exact absurd H (by simp)
      ·rw [if_neg c10] at H
       obtain ⟨c10b0, c10b1⟩ := eF c10
       have H' := Aside0.mk H
       clear H
       have hnb14 := NB321_322.out
       have hnc14 := NB322_321.out
       obtain ⟨hcz15_0, hcz15_1, hfz15_0, hfz15_1⟩ := cz2 (W := wr) BK321
       have p9 : 0 ≤ (0 : Int) := (by omega)
       have q9 : 0 < x322000_1.size := (by have : (0 : Int) < (x322000_1.size : Int) := of_decide_eq_true (by first | (with_reducible assumption) | assumption); omega)
       have hx9 : ∀ h : 0 < x322000_1.size, ((x322000_1[0]'h).toNat : Int) = bt x322000_1 0 := bt_at x322000_1 0
       clear p9
       have qi9 : (0 < (x322000_1.size : Int)) = True := eq_true (of_decide_eq_true (by first | (with_reducible assumption) | assumption))
       replace q9 := eq_true q9
       go_wp2
       go_meet
       case rel => exact ⟨_, (x322000_1), (x322001_1), H', ⟨by have := HK1.out; first | omega | exact Nat.le_refl _⟩, ⟨bk⟩, ⟨bk⟩, ⟨bz⟩⟩
     ·rw [if_neg c8] at H
      exact absurd H (by simp)
 case rest =>
  clear HC2
  try clear c5
  try clear c5b0
  try clear c5b1
  try clear c8
  try clear c8b0
  try clear c8b1
  try clear p9
  try clear q9
  try clear hx9
  try clear qi9
  try clear c10
  try clear c10b0
  try clear c10b1
  try clear c11
  try clear c11b0
  try clear c11b1
  try clear hcz13_0 hcz13_1 hfz13_0 hfz13_1
  try clear hcz15_0 hcz15_1 hfz15_0 hfz15_1
  try clear hcz7_0 hcz7_1 hfz7_0 hfz7_1
  try clear p9
  try clear q9
  obtain ⟨kq, x322000_1, x322001_1, HA, HJ1, BK321, BK322, HB⟩ := hcut
  cases kq with
  | zero => exact absurd HA.out (by simp [platenref04_In.j1])
  | succ kj1 =>
   have H := HA.out
   clear HA
   simp only [platenref04_In.j1] at H
   have H' := Aside0.mk H
   clear H
   go_wp2
   go_loopg [] kj1 (fun kq w' => ∃ (x322000_2 : ByteArray), Aside0 (platenref04_In.l1 kq x322000_2 x322001_1 = some (r1, r2)) ∧ Aside0 (kq ≤ kj1) ∧ Aside0 (w'.heap[gb321]? = some (.cells #[.string x322000_2, .int .i64 x322001_1] 28 (0, 0))) ∧ Aside0 (w'.heap[gb322]? = some (.cells #[.string (⟨#[]⟩ : ByteArray), .int .i64 0] 28 (0, 0))) ∧ Aside0 (Below w.heap.size w w'))
   case atStart => exact ⟨(x322000_1), H', ⟨Nat.le_refl _⟩, ⟨bk⟩, ⟨bk⟩, ⟨bz⟩⟩
   case round =>
    clear H'
    try clear c5
    try clear c5b0
    try clear c5b1
    try clear c8
    try clear c8b0
    try clear c8b1
    try clear p9
    try clear q9
    try clear hx9
    try clear qi9
    try clear c10
    try clear c10b0
    try clear c10b1
    try clear c11
    try clear c11b0
    try clear c11b1
    try clear hcz13_0 hcz13_1 hfz13_0 hfz13_1
    try clear hcz15_0 hcz15_1 hfz15_0 hfz15_1
    try clear hcz7_0 hcz7_1 hfz7_0 hfz7_1
    try clear p9
    try clear q9
    obtain ⟨x322000_2, HA, HK2, BK321, BK322, HB⟩ := hrel
    cases gk with
    | zero => exact absurd HA.out (by simp [platenref04_In.l1])
    | succ k2 =>
     have H := HA.out
     clear HA
     simp only [platenref04_In.l1] at H
     by_cases c16 : x322000_2.toList = ([] : List UInt8)
     ·rw [if_pos c16] at H
      have c16b0 : (x322000_2.toList == ([] : List UInt8)) = true := beq_iff_eq.mpr c16
      have c16b1 : (x322000_2.toList != ([] : List UInt8)) = false := bne_eq_false_iff_eq.mpr c16
      have c16b7 : x322000_2.toList.isEmpty = true := by simpa using c16b0
      clear c16
      simp only [Option.some.injEq, Prod.mk.injEq] at H
      obtain ⟨rfl, rfl⟩ := H
      have hnb17 := NB321_322.out
      have hnc17 := NB322_321.out
      obtain ⟨hcz18_0, hcz18_1, hfz18_0, hfz18_1⟩ := cz2 (W := wr) BK321
      obtain ⟨hcz19_0, hcz19_1, hfz19_0, hfz19_1⟩ := cz2 (W := wr) BK322
      go_wp2
      refine bodyPost_ret (results_cell_row rfl _ _ gb322 28 #[.string x322000_2, .int .i64 0] (0, 0) _ rfl bk Tryd.underlying28 rfl (by kernel_rfl)) rfl ?_
      exact ⟨ez, bz⟩
     ·rw [if_neg c16] at H
      have c16b0 : (x322000_2.toList == ([] : List UInt8)) = false := beq_eq_false_iff_ne.mpr c16
      have c16b1 : (x322000_2.toList != ([] : List UInt8)) = true := bne_iff_ne.mpr c16
      have c16b7 : x322000_2.toList.isEmpty = false := by simpa using c16b0
      obtain ⟨ji20, hji20⟩ : ∃ j_ : Int, (wrap64 ((x322000_2.size : Int) - 1)) = j_ := ⟨_, rfl⟩
      (first | rw [hji20] at H | simp only [hji20] at H)
      have hji20w : (IntKind.i64.wrap ((x322000_2.size : Int) - 1)) = ji20 := (i64_w _).trans hji20
      by_cases c21 : 0 ≤ (ji20)
      ·rw [if_pos c21] at H
       have c21b0 := decide_eq_true c21
       clear c21
       by_cases c22 : (ji20) < (x322000_2.size : Int)
       ·rw [if_pos c22] at H
        have c22b0 := decide_eq_true c22
        clear c22
        by_cases c24 : (bt x322000_2 (ji20)) = 48
        ·rw [if_pos c24] at H
         obtain ⟨c24b0, c24b1⟩ := eT c24
         clear c24
         have c25b0 := eq_true (of_decide_eq_true (by first | (with_reducible assumption) | assumption) : 0 ≤ (ji20))
         by_cases c26 : (ji20) ≤ (x322000_2.size : Int)
         ·rw [if_pos c26] at H
          have c26b0 := eq_true c26
          have c26b1 : decide ((ji20) ≤ (x322000_2.size : Int)) = true := decide_eq_true c26
          clear c26
          have H' := Aside0.mk H
          clear H
          have hnb27 := NB321_322.out
          have hnc27 := NB322_321.out
          obtain ⟨hcz28_0, hcz28_1, hfz28_0, hfz28_1⟩ := cz2 (W := wr) BK321
          have p23 : 0 ≤ ((ji20) : Int) := of_decide_eq_true (by first | (with_reducible assumption) | assumption)
          have q23 : (ji20) < (x322000_2.size : Int) := of_decide_eq_true (by first | (with_reducible assumption) | assumption)
          have hx23 := bt_at x322000_2 (ji20)
          replace p23 := eq_true p23
          replace q23 := eq_true q23
          go_wp2
          go_roundg k2
          case measure => have := HJ1.out; have := HK2.out; omega
          case rel => exact ⟨(x322000_2.extract 0 ((ji20) : Int).toNat), H', ⟨by have := HJ1.out; have := HK2.out; omega⟩, ⟨bk⟩, ⟨bk⟩, ⟨bz⟩⟩
         ·rw [if_neg c26] at H
          exact absurd H (by simp)
        ·rw [if_neg c24] at H
         obtain ⟨c24b0, c24b1⟩ := eF c24
         simp only [Option.some.injEq, Prod.mk.injEq] at H
         obtain ⟨rfl, rfl⟩ := H
         have hnb29 := NB321_322.out
         have hnc29 := NB322_321.out
         obtain ⟨hcz30_0, hcz30_1, hfz30_0, hfz30_1⟩ := cz2 (W := wr) BK321
         have p23 : 0 ≤ ((ji20) : Int) := of_decide_eq_true (by first | (with_reducible assumption) | assumption)
         have q23 : (ji20) < (x322000_2.size : Int) := of_decide_eq_true (by first | (with_reducible assumption) | assumption)
         have hx23 := bt_at x322000_2 (ji20)
         replace p23 := eq_true p23
         replace q23 := eq_true q23
         obtain ⟨hcz31_0, hcz31_1, hfz31_0, hfz31_1⟩ := cz2 (W := wr) BK322
         go_wp2
         refine bodyPost_ret (results_cell_row rfl _ _ gb322 28 #[.string x322000_2, .int .i64 x322001_1] (0, 0) _ rfl bk Tryd.underlying28 rfl (by kernel_rfl)) rfl ?_
         exact ⟨by first | rfl | (simp [errW_none, errW_some] <;> rfl) | (simp only [← hji20]; first | rfl | (simp [errW_none, errW_some] <;> rfl)) | (simp [*, errW_none, errW_some] <;> rfl), bz⟩
       ·rw [if_neg c22] at H
        exact absurd H (by simp)
      ·rw [if_neg c21] at H
       exact absurd H (by simp)
end Go.Proofs.YtmeapdchnnpceaaDoor.Fn
end
section
namespace Go.Proofs.YtmeapdchnnpceaaDoor.Fn
open Go.RowKit Go.Proofs.YtmeapdchnnpceaaDoorW.PrintWords Go.Proofs.YtmeapdchnnpceaaDoorW.PrintLast Go.Proofs.YtmeapdchnnpceaaDoorW.PrintMore
attribute [local go_sem] min2_int min_two
set_option linter.unusedVariables false
set_option linter.unusedSimpArgs false
def platenref04_Norm.l0 : Nat → Int → ByteArray → Int → Option (ByteArray × Int × Int)
 | 0, _, _, _ => none
 | k + 1, x4, x324000, x324001 => if x4 < (x324000.size : Int) then (if 0 ≤ x4 then (if (bt x324000 x4) < 48 then (some ((⟨#[]⟩ : ByteArray), 0, 4)) else (if (bt x324000 x4) > 57 then (some ((⟨#[]⟩ : ByteArray), 0, 4)) else (platenref04_Norm.l0 k (wrap64 (x4 + 1)) x324000 x324001))) else (none)) else (if x324001 < (-5000) then (some ((⟨#[]⟩ : ByteArray), 0, 2)) else (if x324001 > 5000 then (some ((⟨#[]⟩ : ByteArray), 0, 2)) else ((platenref04_In.f k x324000 x324001).bind fun bt325 => (some (bt325.1, bt325.2, 0)))))
def platenref04_Norm.f (k : Nat) (a0_0 : ByteArray) (a0_1 : Int) : Option (ByteArray × Int × Int) := if (a0_0.size : Int) > 2000 then (some ((⟨#[]⟩ : ByteArray), 0, 2)) else (platenref04_Norm.l0 k 0 a0_0 a0_1)
set_option maxHeartbeats 8000000 in
set_option maxRecDepth 100000 in
theorem platenref04_Norm.calls (k : Nat) (a0_0 : ByteArray) (a0_1 : Int) (r1 : ByteArray) (r2 : Int) (r3 : Int) (w : World) (h : platenref04_Norm.f k a0_0 a0_1 = some (r1, r2, r3)) :
  Calls Tryd.prog 37 #[.agg #[.string a0_0, .int .i64 a0_1]] w fun e w' => e = .returned (.tuple #[.agg #[.string r1, .int .i64 r2], .int .i64 r3]) ∧ Below w.heap.size w w' := by
 have hu28 := Tryd.underlying28
 have HB := Aside0.mk (Below.refl w.heap.size w)
 have H : (if (a0_0.size : Int) > 2000 then (some ((⟨#[]⟩ : ByteArray), 0, 2)) else (platenref04_Norm.l0 k 0 a0_0 a0_1)) = some (r1, r2, r3) := h
 clear h
 go_enter Tryd.func37, Tryd.ntmps37
 go_upto_if 8 with (first | ((with_reducible refine gate_dst (N := 1) rfl ?_); refine box_event rfl (N := 1) rfl (cs := #[.string a0_0, .int .i64 a0_1]) (t := 28) gz ?_; intro gb323 hg w2 hbox hb; have GE323 := gN bz hg; have BK323 := Aside0.mk hbox; replace HB := bN bz hb; clear hb hbox hg) | ((with_reducible refine gate_dst (N := 2) rfl ?_); refine box_event rfl (N := 2) rfl (cs := #[.string (⟨#[]⟩ : ByteArray), .int .i64 0]) (t := 28) gz ?_; intro gb324 hg w3 hbox hb; have GE324 := gN bz hg; have NB323_324 := lN (g := gb323) (cs := #[.string a0_0, .int .i64 a0_1]) hg bk; have NB324_323 := rN (g := gb323) (cs := #[.string a0_0, .int .i64 a0_1]) hg bk; replace BK323 := kN (g := gb323) (cs := #[.string a0_0, .int .i64 a0_1]) hb bk; have BK324 := Aside0.mk hbox; replace HB := bN bz hb; clear hb hbox hg; have hnb4 := NB323_324.out; have hnc4 := NB324_323.out; obtain ⟨hcz5_0, hcz5_1, hfz5_0, hfz5_1⟩ := cz2 (W := w3) BK323))
 (try simp only [Act.put, List.setIfInBounds_toArray, List.set_cons_zero, List.set_cons_succ])
 by_cases c6 : (a0_0.size : Int) > 2000
 ·rw [if_pos c6] at H
  have c6b0 : decide (2000 < (a0_0.size : Int)) = true := decide_eq_true c6
  have c6b1 : decide (2000 < a0_0.size) = true := decide_eq_true (by omega)
  clear c6
  try first | rw [c6b0] | rw [c6b1]
  simp only [Option.some.injEq, Prod.mk.injEq] at H
  obtain ⟨rfl, rfl, rfl⟩ := H
  have hnb7 := NB324_323.out
  have hnc7 := NB323_324.out
  obtain ⟨hcz8_0, hcz8_1, hfz8_0, hfz8_1⟩ := cz2 (W := w3) BK324
  go_wp2
  refine bodyPost_ret (results_ct rfl _ _ gb324 28 #[.string (⟨#[]⟩ : ByteArray), .int .i64 0] (0, 0) _ rfl bk Tryd.underlying28 rfl (by kernel_rfl)) rfl ?_
  exact ⟨ez, bz⟩
 ·rw [if_neg c6] at H
  have c6b0 : decide (2000 < (a0_0.size : Int)) = false := decide_eq_false c6
  have c6b1 : decide (2000 < a0_0.size) = false := decide_eq_false (by omega)
  clear c6
  try first | rw [c6b0] | rw [c6b1]
  have H' := Aside0.mk H
  clear H
  go_wp2
  go_loopg [4] k (fun kq v4 w' => ∃ (x4_1 : Int) (x325000_1 : ByteArray) (x325001_1 : Int), v4 = .int .i64 x4_1 ∧ Aside0 (platenref04_Norm.l0 kq x4_1 a0_0 a0_1 = some (r1, r2, r3)) ∧ Aside0 (kq ≤ k) ∧ Aside0 (w'.heap[gb323]? = some (.cells #[.string a0_0, .int .i64 a0_1] 28 (0, 0))) ∧ Aside0 (w'.heap[gb324]? = some (.cells #[.string x325000_1, .int .i64 x325001_1] 28 (0, 0))) ∧ Aside0 (Below w.heap.size w w'))
  case atStart => exact ⟨(0), ((⟨#[]⟩ : ByteArray)), (0), rz, H', ⟨Nat.le_refl _⟩, ⟨bk⟩, ⟨bk⟩, ⟨bz⟩⟩
  case round =>
   clear H'
   try clear c6
   try clear c6b0
   try clear c6b1
   try clear hcz5_0 hcz5_1 hfz5_0 hfz5_1
   try clear hcz8_0 hcz8_1 hfz8_0 hfz8_1
   obtain ⟨x4_1, x325000_1, x325001_1, rfl, HA, HK1, BK323, BK324, HB⟩ := hrel
   cases gk with
   | zero => exact absurd HA.out (by simp [platenref04_Norm.l0])
   | succ k1 =>
    have H := HA.out
    clear HA
    simp only [platenref04_Norm.l0] at H
    by_cases c9 : x4_1 < (a0_0.size : Int)
    ·rw [if_pos c9] at H
     have c9b0 := decide_eq_true c9
     clear c9
     by_cases c10 : 0 ≤ x4_1
     ·rw [if_pos c10] at H
      have c10b0 := decide_eq_true c10
      clear c10
      by_cases c12 : (bt a0_0 x4_1) < 48
      ·rw [if_pos c12] at H
       have c12b0 := decide_eq_true c12
       clear c12
       simp only [Option.some.injEq, Prod.mk.injEq] at H
       obtain ⟨rfl, rfl, rfl⟩ := H
       have hnb13 := NB323_324.out
       have hnc13 := NB324_323.out
       obtain ⟨hcz14_0, hcz14_1, hfz14_0, hfz14_1⟩ := cz2 (W := wr) BK323
       have p11 : 0 ≤ (x4_1 : Int) := of_decide_eq_true (by first | (with_reducible assumption) | assumption)
       have q11 : x4_1 < (a0_0.size : Int) := of_decide_eq_true (by first | (with_reducible assumption) | assumption)
       have hx11 := bt_at a0_0 x4_1
       replace p11 := eq_true p11
       replace q11 := eq_true q11
       obtain ⟨hcz15_0, hcz15_1, hfz15_0, hfz15_1⟩ := cz2 (W := wr) BK324
       go_wp2
       refine bodyPost_ret (results_ct rfl _ _ gb324 28 #[.string (⟨#[]⟩ : ByteArray), .int .i64 0] (0, 0) _ rfl bk Tryd.underlying28 rfl (by kernel_rfl)) rfl ?_
       exact ⟨ez, bz⟩
      ·rw [if_neg c12] at H
       have c12b0 := decide_eq_false c12
       clear c12
       by_cases c17 : (bt a0_0 x4_1) > 57
       ·rw [if_pos c17] at H
        have c17b0 : decide (57 < (bt a0_0 x4_1)) = true := decide_eq_true c17
        clear c17
        simp only [Option.some.injEq, Prod.mk.injEq] at H
        obtain ⟨rfl, rfl, rfl⟩ := H
        have hnb18 := NB323_324.out
        have hnc18 := NB324_323.out
        obtain ⟨hcz19_0, hcz19_1, hfz19_0, hfz19_1⟩ := cz2 (W := wr) BK323
        have p11 : 0 ≤ (x4_1 : Int) := of_decide_eq_true (by first | (with_reducible assumption) | assumption)
        have q11 : x4_1 < (a0_0.size : Int) := of_decide_eq_true (by first | (with_reducible assumption) | assumption)
        have hx11 := bt_at a0_0 x4_1
        replace p11 := eq_true p11
        replace q11 := eq_true q11
        have p16 : 0 ≤ (x4_1 : Int) := of_decide_eq_true (by first | (with_reducible assumption) | assumption)
        have q16 : x4_1 < (a0_0.size : Int) := of_decide_eq_true (by first | (with_reducible assumption) | assumption)
        have hx16 := bt_at a0_0 x4_1
        replace p16 := eq_true p16
        replace q16 := eq_true q16
        obtain ⟨hcz20_0, hcz20_1, hfz20_0, hfz20_1⟩ := cz2 (W := wr) BK324
        go_wp2
        refine bodyPost_ret (results_ct rfl _ _ gb324 28 #[.string (⟨#[]⟩ : ByteArray), .int .i64 0] (0, 0) _ rfl bk Tryd.underlying28 rfl (by kernel_rfl)) rfl ?_
        exact ⟨ez, bz⟩
       ·rw [if_neg c17] at H
        have c17b0 : decide (57 < (bt a0_0 x4_1)) = false := decide_eq_false c17
        clear c17
        have H' := Aside0.mk H
        clear H
        have hnb21 := NB323_324.out
        have hnc21 := NB324_323.out
        obtain ⟨hcz22_0, hcz22_1, hfz22_0, hfz22_1⟩ := cz2 (W := wr) BK323
        have p11 : 0 ≤ (x4_1 : Int) := of_decide_eq_true (by first | (with_reducible assumption) | assumption)
        have q11 : x4_1 < (a0_0.size : Int) := of_decide_eq_true (by first | (with_reducible assumption) | assumption)
        have hx11 := bt_at a0_0 x4_1
        replace p11 := eq_true p11
        replace q11 := eq_true q11
        have p16 : 0 ≤ (x4_1 : Int) := of_decide_eq_true (by first | (with_reducible assumption) | assumption)
        have q16 : x4_1 < (a0_0.size : Int) := of_decide_eq_true (by first | (with_reducible assumption) | assumption)
        have hx16 := bt_at a0_0 x4_1
        replace p16 := eq_true p16
        replace q16 := eq_true q16
        go_wp2
        go_roundg k1
        case measure => have := HK1.out; omega
        case rel => exact ⟨(wrap64 (x4_1 + 1)), (x325000_1), (x325001_1), rz, H', ⟨by have := HK1.out; omega⟩, ⟨bk⟩, ⟨bk⟩, ⟨bz⟩⟩
     ·rw [if_neg c10] at H
      exact absurd H (by simp)
    ·rw [if_neg c9] at H
     have c9b0 := decide_eq_false c9
     clear c9
     by_cases c23 : a0_1 < (-5000)
     ·rw [if_pos c23] at H
      have c23b0 := decide_eq_true c23
      clear c23
      simp only [Option.some.injEq, Prod.mk.injEq] at H
      obtain ⟨rfl, rfl, rfl⟩ := H
      have hnb24 := NB323_324.out
      have hnc24 := NB324_323.out
      obtain ⟨hcz25_0, hcz25_1, hfz25_0, hfz25_1⟩ := cz2 (W := wr) BK323
      obtain ⟨hcz26_0, hcz26_1, hfz26_0, hfz26_1⟩ := cz2 (W := wr) BK324
      go_wp2
      refine bodyPost_ret (results_ct rfl _ _ gb324 28 #[.string (⟨#[]⟩ : ByteArray), .int .i64 0] (0, 0) _ rfl bk Tryd.underlying28 rfl (by kernel_rfl)) rfl ?_
      exact ⟨ez, bz⟩
     ·rw [if_neg c23] at H
      have c23b0 := decide_eq_false c23
      clear c23
      by_cases c27 : a0_1 > 5000
      ·rw [if_pos c27] at H
       have c27b0 : decide (5000 < a0_1) = true := decide_eq_true c27
       clear c27
       simp only [Option.some.injEq, Prod.mk.injEq] at H
       obtain ⟨rfl, rfl, rfl⟩ := H
       have hnb28 := NB323_324.out
       have hnc28 := NB324_323.out
       obtain ⟨hcz29_0, hcz29_1, hfz29_0, hfz29_1⟩ := cz2 (W := wr) BK323
       obtain ⟨hcz30_0, hcz30_1, hfz30_0, hfz30_1⟩ := cz2 (W := wr) BK324
       go_wp2
       refine bodyPost_ret (results_ct rfl _ _ gb324 28 #[.string (⟨#[]⟩ : ByteArray), .int .i64 0] (0, 0) _ rfl bk Tryd.underlying28 rfl (by kernel_rfl)) rfl ?_
       exact ⟨ez, bz⟩
      ·rw [if_neg c27] at H
       have c27b0 : decide (5000 < a0_1) = false := decide_eq_false c27
       clear c27
       replace H := bs H
       obtain ⟨⟨t325, t326⟩, A31, H⟩ := H
       dsimp only at H
       simp only [Option.some.injEq, Prod.mk.injEq] at H
       obtain ⟨rfl, rfl, rfl⟩ := H
       have hnb32 := NB323_324.out
       have hnc32 := NB324_323.out
       obtain ⟨hcz33_0, hcz33_1, hfz33_0, hfz33_1⟩ := cz2 (W := wr) BK323
       go_wp2_with (first | ((with_reducible refine gate_callee (f := 46) rfl ?_); refine goesL_ (some 40) rfl rfl Tryd.func46 (by kernel_rfl) rfl #[.agg #[.string a0_0, .int .i64 a0_1]] rfl lz ?_; (with_reducible refine (platenref04_In.calls k1 a0_0 a0_1 t325 t326 _ A31.out).mono ?_); rintro e w34 ⟨rfl, hb⟩; refine ⟨_, rfl, ?_⟩; replace BK323 := kN (g := gb323) (cs := #[.string a0_0, .int .i64 a0_1]) hb bk; replace BK324 := kN (g := gb324) (cs := #[.string x325000_1, .int .i64 x325001_1]) hb bk; replace HB := bN bz hb; (try clear hb); (try clear hb2); (try clear hk); (try clear hi); obtain ⟨hcz35_0, hcz35_1, hfz35_0, hfz35_1⟩ := cz2 (W := w34) BK324))
       refine bodyPost_ret (results_ct rfl _ _ gb324 28 #[.string t325, .int .i64 t326] (0, 0) _ rfl bk Tryd.underlying28 rfl (by kernel_rfl)) rfl ?_
       exact ⟨ez, bz⟩
end Go.Proofs.YtmeapdchnnpceaaDoor.Fn
end
section
namespace Go.Proofs.YtmeapdchnnpceaaDoor.Pure
open Go.RowKit Go.Proofs.YtmeapdchnnpceaaDoorW.PrintWords Go.Proofs.YtmeapdchnnpceaaDoor.Fn
set_option linter.unusedVariables false
set_option linter.unusedSimpArgs false
abbrev L (s : ByteArray) : List UInt8 := s.data.toList
def S (l : List UInt8) : ByteArray := ⟨l.toArray⟩
theorem L_S (l : List UInt8) : L (S l) = l := rfl
theorem S_L (s : ByteArray) : S (L s) = s := Lib.mk_data s
theorem size_L (s : ByteArray) : s.size = (L s).length := Lib.size_eq s
theorem size_S (l : List UInt8) : (S l).size = l.length := by rw [size_L, L_S]
theorem toList_L (s : ByteArray) : s.toList = L s := Lib.toList_data s
theorem bt_L (s : ByteArray) (i : Nat) (h : i < s.size) : bt s (i : Int) = (((L s)[i]'(by rw [← size_L]; exact h)).toNat : Int) := by
  unfold bt
  rw [dif_pos (by simpa using h)]
  simp only [Int.toNat_natCast]
  rfl
theorem L_extract (s : ByteArray) (a b : Nat) : L (s.extract a b) = ((L s).drop a).take (b - a) := Lib.extract_data s a b
theorem wrap_id {x : Int} (h1 : -9223372036854775808 ≤ x) (h2 : x ≤ 9223372036854775807) : wrap64 x = x := by unfold wrap64; omega
def decS (d : List UInt8 × Int) : ByteArray × Int := (S d.1, d.2)
theorem trimL (s : ByteArray) : strings_TrimLeft.f s ⟨#[48]⟩ = some (S (dz (L s))) := by
  show (if (48 : UInt8).toNat < 128 then some ((⟨(Lib.trimLeftB s.data.toList 48).toArray⟩ : ByteArray)) else none) = _
  rw [if_pos (by decide)]; rfl
theorem trimR (s : ByteArray) (h : s.size ≤ 9223372036854775807) : strings_TrimRight.f s ⟨#[48]⟩ = some (S (rz (L s))) := by
  show (if (48 : UInt8).toNat < 128 ∧ s.size ≤ 9223372036854775807 then some ((⟨(Lib.trimRightB s.data.toList 48).toArray⟩ : ByteArray)) else none) = _
  rw [if_pos ⟨by decide, h⟩]; rfl
theorem form_eq (s : ByteArray) (p : Int) (hs : s.size ≤ 4611686018427387904) (h1 : -4611686018427387904 ≤ p) (h2 : p ≤ 4611686018427387904) : bigdec_form.f s p = some (decS (formL (L s) p)) := by
  have hl := length_dz (L s)
  rw [← size_L] at hl
  unfold bigdec_form.f
  rw [trimL, Option.bind_some, trimR _ (by rw [size_S]; omega), Option.bind_some, toList_L, L_S, L_S]
  unfold formL decS
  by_cases h : rz (dz (L s)) = []
  · rw [if_pos h, if_pos h]; rfl
  · rw [if_neg h, if_neg h, size_S, wrap_id (x := (s.size : Int) - _) (by omega) (by omega), wrap_id (by omega) (by omega), size_L]
def normTail (l0 : List UInt8) (p : Int) (l : List UInt8) : ByteArray × Int × Int :=
  if l.all isD = true then (if p < -5000 then (⟨#[]⟩, 0, 2) else if p > 5000 then (⟨#[]⟩, 0, 2) else ((decS (formL l0 p)).1, (decS (formL l0 p)).2, 0)) else (⟨#[]⟩, 0, 4)
def normS (s : ByteArray) (p : Int) : ByteArray × Int × Int := if s.size > 2000 then (⟨#[]⟩, 0, 2) else normTail (L s) p (L s)
theorem isD_iff (c : UInt8) : isD c = true ↔ 48 ≤ c.toNat ∧ c.toNat ≤ 57 := by
  unfold isD; simp
theorem drop_at (l : List UInt8) (i : Nat) (h : i < l.length) : l.drop i = l[i] :: l.drop (i + 1) := List.drop_eq_getElem_cons h
theorem norm_l0 (s : ByteArray) (p : Int) (hs : s.size ≤ 2000) : ∀ d i, i + d = s.size → Ev (fun k => bigdec_Norm.l0 k (bytesOf s) (s.size : Int) (i : Int) s p) (normTail (L s) p ((L s).drop i)) := by
  intro d
  induction d with
  | zero =>
    intro i hi
    refine Ev.step (f := fun _ => some (normTail (L s) p ((L s).drop i))) (fun k => ?_) (Ev.now _)
    simp only [bigdec_Norm.l0]
    rw [if_neg (by omega)]
    have : (L s).drop i = [] := List.drop_of_length_le (by rw [← size_L]; omega)
    rw [this]
    unfold normTail
    rw [if_pos (show ([] : List UInt8).all isD = true from rfl)]
    by_cases h1 : p < -5000
    · rw [if_pos h1, if_pos h1]
    · rw [if_neg h1, if_neg h1]
      by_cases h2 : p > 5000
      · rw [if_pos h2, if_pos h2]
      · rw [if_neg h2, if_neg h2, form_eq s p (by omega) (by omega) (by omega)]; rfl
  | succ d ih =>
    intro i hi
    have hlt : i < s.size := by omega
    have hc : rd (bytesOf s) (i : Int) = (((L s)[i]'(by rw [← size_L]; exact hlt)).toNat : Int) := (rd_bytesOf s i).trans (bt_L s i hlt)
    have hd := drop_at (L s) i (by rw [← size_L]; exact hlt)
    generalize hcc : (L s)[i]'(by rw [← size_L]; exact hlt) = c at hc hd
    have hlen : ((bytesOf s).length : Int) = (s.size : Int) := by rw [bytesOf_length]
    by_cases hb : isD c = true
    · have h48 := (isD_iff c).1 hb
      have e : normTail (L s) p ((L s).drop i) = normTail (L s) p ((L s).drop (i + 1)) := by
        rw [hd]; unfold normTail
        rw [List.all_cons, hb, Bool.true_and]
      rw [e]
      refine Ev.step (f := fun k => bigdec_Norm.l0 k (bytesOf s) (s.size : Int) ((i + 1 : Nat) : Int) s p) (fun k => ?_) (ih (i + 1) (by omega))
      simp only [bigdec_Norm.l0]
      rw [if_pos (by omega), if_pos (by omega), if_pos (by omega), hc, if_neg (by omega), if_neg (by omega), wrap_id (by omega) (by omega)]
      rfl
    · have e : normTail (L s) p ((L s).drop i) = (⟨#[]⟩, 0, 4) := by
        rw [hd]; unfold normTail
        rw [List.all_cons, if_neg (by simp [hb])]
      rw [e]
      have h48 : ¬ (48 ≤ c.toNat ∧ c.toNat ≤ 57) := fun h => hb ((isD_iff c).2 h)
      refine Ev.step (f := fun _ => some ((⟨#[]⟩ : ByteArray), (0 : Int), (4 : Int))) (fun k => ?_) (Ev.now _)
      simp only [bigdec_Norm.l0]
      rw [if_pos (by omega), if_pos (by omega), if_pos (by omega), hc]
      by_cases h1 : (c.toNat : Int) < 48
      · rw [if_pos h1]
      · rw [if_neg h1, if_pos (by omega)]
theorem norm_eq (s : ByteArray) (p : Int) : Ev (fun k => bigdec_Norm.f k s p) (normS s p) := by
  unfold bigdec_Norm.f normS
  by_cases h : s.size > 2000
  · rw [if_pos h]
    exact Ev.congr (fun k => by rw [if_pos (by omega)]) (Ev.now _)
  · rw [if_neg h]
    refine Ev.congr (f := fun k => bigdec_Norm.l0 k (bytesOf s) (s.size : Int) ((0 : Nat) : Int) s p) (fun k => ?_) ?_
    · rw [if_neg (by omega), if_pos (by omega), Option.bind_some, bytesOf_length]; rfl
    · have := norm_l0 s p (by omega) s.size 0 (by omega)
      rw [List.drop_zero] at this
      exact this
theorem rIn_l1 (p : Int) : ∀ (n : Nat) (s : ByteArray), s.size = n → n ≤ 1000000 → (L s = [] → p = p) → Ev (fun k => platenref04_In.l1 k s p) (S (rz (L s)), if rz (L s) = [] then 0 else p) := by
  intro n
  induction n with
  | zero =>
    intro s hs _ _
    have hl : L s = [] := List.eq_nil_of_length_eq_zero (by rw [← size_L]; exact hs)
    refine Ev.step (f := fun _ => some (s, (0 : Int))) (fun k => ?_) ?_
    · simp only [platenref04_In.l1]
      rw [if_pos (by rw [toList_L, hl])]
    · rw [hl, rz_nil, if_pos rfl]
      have : s = S [] := by rw [← S_L s, hl]
      rw [this]; exact Ev.now _
  | succ n ih =>
    intro s hs hn _
    have hne : L s ≠ [] := by intro e; have h_ := size_L s; rw [e, List.length_nil] at h_; omega
    obtain ⟨t, c, hl⟩ : ∃ t c, L s = t ++ [c] := by
      rcases List.eq_nil_or_concat (L s) with h | ⟨t, c, h⟩
      · exact absurd h hne
      · exact ⟨t, c, by rw [h, List.concat_eq_append]⟩
    have htl : t.length = n := by have := size_L s; rw [hl, List.length_append] at this; simp at this; omega
    have hb : bt s ((n : Nat) : Int) = (c.toNat : Int) := by
      rw [bt_L s n (by omega)]
      have : (L s)[n]'(by rw [← size_L]; omega) = c := by
        simp only [hl]
        rw [List.getElem_append_right (by omega)]
        simp [htl]
      rw [this]
    have hw : wrap64 ((s.size : Int) - 1) = (n : Int) := by rw [wrap_id (by omega) (by omega)]; omega
    by_cases h : c.toNat = 48
    · have hx : L (s.extract 0 n) = t := by rw [L_extract, hl]; simp [htl]
      rw [hl, rz_snoc_eq h]
      have := ih (s.extract 0 n) (by rw [size_L, hx, htl]) (by omega) (fun _ => rfl)
      rw [hx] at this
      refine Ev.step (f := fun k => platenref04_In.l1 k (s.extract 0 n) p) (fun k => ?_) this
      simp only [platenref04_In.l1]
      rw [if_neg (by rw [toList_L]; exact hne), hw, if_pos (by omega), if_pos (by omega), hb, if_pos (by omega), if_pos (by omega)]
      simp
    · rw [hl, rz_snoc_ne h, if_neg (by simp)]
      refine Ev.step (f := fun _ => some (s, p)) (fun k => ?_) ?_
      · simp only [platenref04_In.l1]
        rw [if_neg (by rw [toList_L]; exact hne), hw, if_pos (by omega), if_pos (by omega), hb, if_neg (by omega)]
      · have : s = S (t ++ [c]) := by rw [← hl, S_L]
        rw [this]; exact Ev.now _
theorem rIn_l0 : ∀ (n : Nat) (s : ByteArray) (p : Int), s.size = n → n ≤ 1000000 → -4611686018427387904 + n ≤ p → p ≤ 4611686018427387904 → Ev (fun k => platenref04_In.l0 k s p) (decS (formL (L s) p)) := by
  intro n
  induction n with
  | zero =>
    intro s p hs _ _ _
    have hl : L s = [] := List.eq_nil_of_length_eq_zero (by rw [← size_L]; exact hs)
    have h1 := rIn_l1 p 0 s hs (by omega) (fun _ => rfl)
    refine Ev.step (f := fun k => platenref04_In.j1 k s p) (fun k => ?_) (Ev.step (f := fun k => platenref04_In.l1 k s p) (fun k => rfl) ?_)
    · simp only [platenref04_In.l0]
      rw [if_pos (by rw [toList_L, hl])]
    · rw [hl] at h1 ⊢
      exact h1
  | succ n ih =>
    intro s p hs hn h1 h2
    have hne : L s ≠ [] := by intro e; have h_ := size_L s; rw [e, List.length_nil] at h_; omega
    obtain ⟨c, t, hl⟩ : ∃ c t, L s = c :: t := by
      cases h : L s with
      | nil => exact absurd h hne
      | cons c t => exact ⟨c, t, rfl⟩
    have htl : t.length = n := by have := size_L s; rw [hl, List.length_cons] at this; omega
    have hb : bt s ((0 : Nat) : Int) = (c.toNat : Int) := by
      rw [bt_L s 0 (by omega)]
      simp only [hl]
      rfl
    by_cases h : c.toNat = 48
    · have hx : L (s.extract 1 s.size) = t := by rw [L_extract, hl]; simp [List.take_of_length_le, htl, hs]
      have := ih (s.extract 1 s.size) (p - 1) (by rw [size_L, hx, htl]) (by omega) (by omega) (by omega)
      rw [hx] at this
      have e : formL (L s) p = formL t (p - 1) := by
        rw [hl]; unfold formL
        rw [dz_cons_eq h]
        by_cases hz : rz (dz t) = []
        · rw [if_pos hz, if_pos hz]
        · rw [if_neg hz, if_neg hz, List.length_cons]
          congr 1
          omega
      rw [e]
      refine Ev.step (f := fun k => platenref04_In.l0 k (s.extract 1 s.size) (p - 1)) (fun k => ?_) this
      simp only [platenref04_In.l0]
      rw [if_neg (by rw [toList_L]; exact hne), if_pos (by omega)]
      rw [show ((0 : Int)) = ((0 : Nat) : Int) from rfl, hb, if_pos (by omega), if_pos (by omega), wrap_id (by omega) (by omega)]
    · have h3 := rIn_l1 p (n + 1) s hs (by omega) (fun _ => rfl)
      have e : decS (formL (L s) p) = (S (rz (L s)), if rz (L s) = [] then 0 else p) := by
        unfold formL decS
        rw [hl, dz_cons_ne h]
        by_cases hz : rz (c :: t) = []
        · rw [if_pos hz, if_pos hz, hz]
        · rw [if_neg hz, if_neg hz]
          congr 1
          show p - _ = p
          omega
      rw [e]
      refine Ev.step (f := fun k => platenref04_In.j1 k s p) (fun k => ?_) (Ev.step (f := fun k => platenref04_In.l1 k s p) (fun k => rfl) h3)
      simp only [platenref04_In.l0]
      rw [if_neg (by rw [toList_L]; exact hne), if_pos (by omega)]
      rw [show ((0 : Int)) = ((0 : Nat) : Int) from rfl, hb, if_neg (by omega)]
theorem rIn_eq (s : ByteArray) (p : Int) (hs : s.size ≤ 1000000) (h1 : -4000000000000000000 ≤ p) (h2 : p ≤ 4000000000000000000) : Ev (fun k => platenref04_In.f k s p) (decS (formL (L s) p)) :=
  rIn_l0 s.size s p rfl hs (by omega) (by omega)
theorem rNorm_l0 (s : ByteArray) (p : Int) (hs : s.size ≤ 2000) : ∀ d i, i + d = s.size → Ev (fun k => platenref04_Norm.l0 k (i : Int) s p) (normTail (L s) p ((L s).drop i)) := by
  intro d
  induction d with
  | zero =>
    intro i hi
    have hn : (L s).drop i = [] := List.drop_of_length_le (by rw [← size_L]; omega)
    rw [hn]
    unfold normTail
    rw [if_pos (show ([] : List UInt8).all isD = true from rfl)]
    by_cases h1 : p < -5000
    · rw [if_pos h1]
      refine Ev.step (f := fun _ => some ((⟨#[]⟩ : ByteArray), (0 : Int), (2 : Int))) (fun k => ?_) (Ev.now _)
      simp only [platenref04_Norm.l0]
      rw [if_neg (by omega), if_pos h1]
    · rw [if_neg h1]
      by_cases h2 : p > 5000
      · rw [if_pos h2]
        refine Ev.step (f := fun _ => some ((⟨#[]⟩ : ByteArray), (0 : Int), (2 : Int))) (fun k => ?_) (Ev.now _)
        simp only [platenref04_Norm.l0]
        rw [if_neg (by omega), if_neg h1, if_pos h2]
      · rw [if_neg h2]
        refine Ev.step (f := fun k => (platenref04_In.f k s p).bind fun bt118 => (some (bt118.1, bt118.2, 0))) (fun k => ?_) (Ev.bind (rIn_eq s p (by omega) (by omega) (by omega)) (Ev.now _))
        simp only [platenref04_Norm.l0]
        rw [if_neg (by omega), if_neg h1, if_neg h2]
  | succ d ih =>
    intro i hi
    have hlt : i < s.size := by omega
    have hc : bt s (i : Int) = (((L s)[i]'(by rw [← size_L]; exact hlt)).toNat : Int) := bt_L s i hlt
    have hd := drop_at (L s) i (by rw [← size_L]; exact hlt)
    generalize hcc : (L s)[i]'(by rw [← size_L]; exact hlt) = c at hc hd
    by_cases hb : isD c = true
    · have h48 := (isD_iff c).1 hb
      have e : normTail (L s) p ((L s).drop i) = normTail (L s) p ((L s).drop (i + 1)) := by
        rw [hd]; unfold normTail
        rw [List.all_cons, hb, Bool.true_and]
      rw [e]
      refine Ev.step (f := fun k => platenref04_Norm.l0 k ((i + 1 : Nat) : Int) s p) (fun k => ?_) (ih (i + 1) (by omega))
      simp only [platenref04_Norm.l0]
      rw [if_pos (by omega), if_pos (by omega), hc, if_neg (by omega), if_neg (by omega), wrap_id (by omega) (by omega)]
      rfl
    · have e : normTail (L s) p ((L s).drop i) = (⟨#[]⟩, 0, 4) := by
        rw [hd]; unfold normTail
        rw [List.all_cons, if_neg (by simp [hb])]
      rw [e]
      have h48 : ¬ (48 ≤ c.toNat ∧ c.toNat ≤ 57) := fun h => hb ((isD_iff c).2 h)
      refine Ev.step (f := fun _ => some ((⟨#[]⟩ : ByteArray), (0 : Int), (4 : Int))) (fun k => ?_) (Ev.now _)
      simp only [platenref04_Norm.l0]
      rw [if_pos (by omega), if_pos (by omega), hc]
      by_cases h1 : (c.toNat : Int) < 48
      · rw [if_pos h1]
      · rw [if_neg h1, if_pos (by omega)]
theorem rNorm_eq (s : ByteArray) (p : Int) : Ev (fun k => platenref04_Norm.f k s p) (normS s p) := by
  unfold platenref04_Norm.f normS
  by_cases h : s.size > 2000
  · rw [if_pos h]
    exact Ev.congr (fun k => by rw [if_pos (by omega)]) (Ev.now _)
  · rw [if_neg h]
    have := rNorm_l0 s p (by omega) s.size 0 (by omega)
    rw [List.drop_zero] at this
    exact Ev.congr (fun k => by rw [if_neg (by omega)]; rfl) this
end Go.Proofs.YtmeapdchnnpceaaDoor.Pure
end
section
namespace Go.Proofs.YtmeapdchnnpceaaDoor.Pure
open Go.RowKit Go.Proofs.YtmeapdchnnpceaaDoorW.PrintWords
set_option linter.unusedVariables false
set_option linter.unusedSimpArgs false
theorem u64_id {x : Int} (h1 : 0 ≤ x) (h2 : x ≤ 18446744073709551615) : IntKind.u64.wrap x = x := by
  simp [IntKind.wrap, IntKind.bits, IntKind.signed]
  omega
theorem tmod_id {x y : Int} (h : 0 ≤ x) : Int.tmod x y = x % y := Int.tmod_eq_emod_of_nonneg h
theorem tdiv_id {x y : Int} (h : 0 ≤ x) : Int.tdiv x y = x / y := Int.tdiv_eq_ediv_of_nonneg h
def InB (B : Nat) (xs : List Int) : Prop := ∀ x ∈ xs, 0 ≤ x ∧ x < (B : Int)
def lv (B : Nat) : List Int → Nat
  | [] => 0
  | x :: xs => x.toNat + B * lv B xs
theorem InB.nil (B : Nat) : InB B [] := fun x h => by cases h
theorem InB.cons {B : Nat} {x : Int} {xs : List Int} (h : InB B (x :: xs)) : (0 ≤ x ∧ x < (B : Int)) ∧ InB B xs := ⟨h x List.mem_cons_self, fun y hy => h y (List.mem_cons_of_mem _ hy)⟩
theorem InB.mk {B : Nat} {x : Int} {xs : List Int} (h1 : 0 ≤ x ∧ x < (B : Int)) (h2 : InB B xs) : InB B (x :: xs) := by
  intro y hy
  rcases List.mem_cons.1 hy with rfl | h
  · exact h1
  · exact h2 y h
theorem InB.left {B : Nat} {a b : List Int} (h : InB B (a ++ b)) : InB B a := fun x hx => h x (List.mem_append_left _ hx)
theorem InB.append {B : Nat} {a b : List Int} (ha : InB B a) (hb : InB B b) : InB B (a ++ b) := fun x hx => (List.mem_append.1 hx).elim (ha x) (hb x)
theorem lv_append (B : Nat) (a b : List Int) : lv B (a ++ b) = lv B a + B ^ a.length * lv B b := by
  induction a with
  | nil => simp [lv]
  | cons x a ih =>
    rw [List.cons_append, lv, lv, ih, List.length_cons, Nat.pow_succ, Nat.mul_add]
    have : B * (B ^ a.length * lv B b) = B ^ a.length * B * lv B b := by rw [← Nat.mul_assoc, Nat.mul_comm B]
    omega
def mulGo (B by_ : Nat) : List Int → Nat → List Int
  | [], c => if c = 0 then [] else [(c : Int)]
  | x :: xs, c => (((x.toNat * by_ + c) % B : Nat) : Int) :: mulGo B by_ xs ((x.toNat * by_ + c) / B)
theorem mulGo_val {B by_ : Nat} (hB : 0 < B) : ∀ (xs : List Int) (c : Nat), lv B (mulGo B by_ xs c) = lv B xs * by_ + c
  | [], c => by
    unfold mulGo
    by_cases h : c = 0
    · rw [if_pos h, h]; simp [lv]
    · rw [if_neg h]; simp [lv]
  | x :: xs, c => by
    unfold mulGo
    rw [lv, lv, mulGo_val hB xs, Int.toNat_natCast, Nat.mul_add, Nat.add_mul, ← Nat.mul_assoc]
    have := Nat.mod_add_div (x.toNat * by_ + c) B
    omega
theorem mulGo_val0 {B by_ : Nat} (hB : 0 < B) (xs : List Int) : lv B (mulGo B by_ xs 0) = lv B xs * by_ := mulGo_val hB xs 0
theorem carry_le {B by_ x c : Nat} (hx : x < B) (hc : c ≤ by_) (hB : 0 < B) : (x * by_ + c) / B ≤ by_ := by
  have h1 : x * by_ + c ≤ B * by_ := by
    have : x * by_ ≤ (B - 1) * by_ := Nat.mul_le_mul_right _ (by omega)
    have h2 : (B - 1) * by_ + by_ = B * by_ := by
      have : (B - 1 + 1) * by_ = (B - 1) * by_ + by_ := Nat.succ_mul _ _
      rw [← this]; congr 1; omega
    omega
  calc (x * by_ + c) / B ≤ (B * by_) / B := Nat.div_le_div_right h1
    _ = by_ := Nat.mul_div_cancel_left _ hB
theorem mulGo_in {B by_ : Nat} (hby : by_ < B) : ∀ (xs : List Int) (c : Nat), InB B xs → c ≤ by_ → InB B (mulGo B by_ xs c)
  | [], c, _, hc => by
    unfold mulGo
    by_cases h : c = 0
    · rw [if_pos h]; exact InB.nil B
    · rw [if_neg h]; exact InB.mk ⟨by omega, by omega⟩ (InB.nil B)
  | x :: xs, c, h, hc => by
    unfold mulGo
    have hx := h.cons.1
    refine InB.mk ⟨by omega, ?_⟩ (mulGo_in hby xs _ h.cons.2 (carry_le (by omega) hc (by omega)))
    have := Nat.mod_lt (x.toNat * by_ + c) (show B > 0 by omega)
    omega
theorem mulGo_len {B by_ : Nat} : ∀ (xs : List Int) (c : Nat), (mulGo B by_ xs c).length ≤ xs.length + 1
  | [], c => by
    unfold mulGo
    by_cases h : c = 0
    · rw [if_pos h]; simp
    · rw [if_neg h]; simp
  | x :: xs, c => by
    unfold mulGo
    have := mulGo_len (B := B) (by_ := by_) xs ((x.toNat * by_ + c) / B)
    simp only [List.length_cons]
    omega
theorem rd_mid (a : List Int) (x : Int) (b : List Int) : rd (a ++ x :: b) (a.length : Int) = x := by
  unfold rd
  simp [List.getD_eq_getElem?_getD]
theorem set_mid (a : List Int) (x y : Int) (b : List Int) : (a ++ x :: b).set a.length y = a ++ y :: b := by
  rw [List.set_append_right _ _ (Nat.le_refl _)]
  simp
def dLE : Nat → Nat → List Int
  | 0, _ => []
  | f + 1, n => if n = 0 then [] else ((n % 10 : Nat) : Int) :: dLE f (n / 10)
theorem dLE_val : ∀ (f n : Nat), n < 10 ^ f → lv 10 (dLE f n) = n
  | 0, n, h => by simp at h; subst h; rfl
  | f + 1, n, h => by
    unfold dLE
    by_cases h0 : n = 0
    · rw [if_pos h0, h0]; rfl
    · rw [if_neg h0, lv, dLE_val f (n / 10) (by rw [Nat.pow_succ] at h; omega), Int.toNat_natCast]
      omega
theorem dLE_in : ∀ (f n : Nat), InB 10 (dLE f n)
  | 0, n => InB.nil 10
  | f + 1, n => by
    unfold dLE
    by_cases h0 : n = 0
    · rw [if_pos h0]; exact InB.nil 10
    · rw [if_neg h0]; exact InB.mk ⟨by omega, by omega⟩ (dLE_in f _)
theorem dLE_len : ∀ (f n : Nat), (dLE f n).length ≤ f
  | 0, n => Nat.le_refl _
  | f + 1, n => by
    unfold dLE
    by_cases h0 : n = 0
    · rw [if_pos h0]; simp
    · rw [if_neg h0]
      have := dLE_len f (n / 10)
      simp only [List.length_cons]
      omega
def textLE (l : List Int) : List UInt8 := l.reverse.map fun x => ch x.toNat
theorem textLE_val {l : List Int} (h : InB 10 l) : val (textLE l) = lv 10 l := by
  induction l with
  | nil => rfl
  | cons x l ih =>
    have := ih h.cons.2
    unfold textLE at this ⊢
    rw [List.reverse_cons, List.map_append, List.map_cons, List.map_nil, val_snoc, this, lv, dig_ch (by have := h.cons.1; omega)]
    omega
theorem textLE_all {l : List Int} (h : InB 10 l) : AllD (textLE l) := by
  intro c hc
  obtain ⟨x, hx, rfl⟩ := List.mem_map.1 hc
  have := h x (List.mem_reverse.1 hx)
  rw [ch_toNat (by omega)]
  omega
theorem textLE_len (l : List Int) : (textLE l).length = l.length := by simp [textLE]
theorem L_strOfNums (xs : List Int) : L (strOfNums xs) = xs.map fun n => UInt8.ofNat n.toNat := strOfNums_data xs
theorem lv_lt {B : Nat} {xs : List Int} (h : InB B xs) : lv B xs < B ^ xs.length := by
  induction xs with
  | nil => simp [lv]
  | cons x xs ih =>
    have h1 := ih h.cons.2
    have h2 := h.cons.1
    rw [lv, List.length_cons, Nat.pow_succ]
    have h3 : B * (lv B xs + 1) ≤ B * B ^ xs.length := Nat.mul_le_mul_left _ h1
    rw [Nat.mul_add, Nat.mul_one] at h3
    have : B * B ^ xs.length = B ^ xs.length * B := Nat.mul_comm _ _
    omega
theorem digs_len : ∀ (k n : Nat), n < 10 ^ k → (digs n).length ≤ k
  | 0, n, h => by simp at h; subst h; exact Nat.le_refl _
  | k + 1, n, h => by
    by_cases h0 : n = 0
    · subst h0; exact Nat.zero_le _
    · rw [digs_step h0, List.length_append]
      have := digs_len k (n / 10) (by rw [Nat.pow_succ] at h; omega)
      simp
      omega
end Go.Proofs.YtmeapdchnnpceaaDoor.Pure
end
section
namespace Go.Proofs.YtmeapdchnnpceaaDoor.Fn
open Go.RowKit Go.Proofs.YtmeapdchnnpceaaDoorW.PrintWords Go.Proofs.YtmeapdchnnpceaaDoorW.PrintLast Go.Proofs.YtmeapdchnnpceaaDoorW.PrintMore
attribute [local go_sem] min2_int min_two
set_option linter.unusedVariables false
set_option linter.unusedSimpArgs false
def bigdec_cmp.j0 : Nat → Bool → ByteArray → Int → ByteArray → Int → Option (Int)
 | 0, _, _, _, _, _ => none
 | k + 1, x5, x125000, x125001, x126000, x126001 => if x5 = true then ((strings_Compare.f x125000 x126000).bind fun t126 => (some t126)) else (if x125001 < x126001 then (some (-1)) else (if x125001 > x126001 then (some 1) else ((strings_Compare.f x125000 x126000).bind fun t127 => (some t127))))
def bigdec_cmp.f (k : Nat) (a0_0 : ByteArray) (a0_1 : Int) (a1_0 : ByteArray) (a1_1 : Int) : Option (Int) := if a0_0.toList = ([] : List UInt8) then (bigdec_cmp.j0 k true a0_0 a0_1 a1_0 a1_1) else (bigdec_cmp.j0 k (a1_0.toList == ([] : List UInt8)) a0_0 a0_1 a1_0 a1_1)
set_option maxHeartbeats 8000000 in
set_option maxRecDepth 100000 in
theorem bigdec_cmp.calls (k : Nat) (a0_0 : ByteArray) (a0_1 : Int) (a1_0 : ByteArray) (a1_1 : Int) (r : Int) (w : World) (h : bigdec_cmp.f k a0_0 a0_1 a1_0 a1_1 = some r) :
  Calls Tryd.prog 50 #[.agg #[.string a0_0, .int .i64 a0_1], .agg #[.string a1_0, .int .i64 a1_1]] w fun e w' => e = .returned (.int .i64 r) ∧ Below w.heap.size w w' := by
 have hu28 := Tryd.underlying28
 have HB := Aside0.mk (Below.refl w.heap.size w)
 have H : (if a0_0.toList = ([] : List UInt8) then (bigdec_cmp.j0 k true a0_0 a0_1 a1_0 a1_1) else (bigdec_cmp.j0 k (a1_0.toList == ([] : List UInt8)) a0_0 a0_1 a1_0 a1_1)) = some r := h
 clear h
 have HC3 := Aside0.mk H
 clear H
 go_enter Tryd.func50, Tryd.ntmps50
 go_upto_region 1 with (first | ((with_reducible refine gate_dst (N := 2) rfl ?_); refine box_event rfl (N := 2) rfl (cs := #[.string a0_0, .int .i64 a0_1]) (t := 28) gz ?_; intro gb124 hg w4 hbox hb; have GE124 := gN bz hg; have BK124 := Aside0.mk hbox; replace HB := bN bz hb; clear hb hbox hg) | ((with_reducible refine gate_dst (N := 3) rfl ?_); refine box_event rfl (N := 3) rfl (cs := #[.string a1_0, .int .i64 a1_1]) (t := 28) gz ?_; intro gb125 hg w5 hbox hb; have GE125 := gN bz hg; have NB124_125 := lN (g := gb124) (cs := #[.string a0_0, .int .i64 a0_1]) hg bk; have NB125_124 := rN (g := gb124) (cs := #[.string a0_0, .int .i64 a0_1]) hg bk; replace BK124 := kN (g := gb124) (cs := #[.string a0_0, .int .i64 a0_1]) hb bk; have BK125 := Aside0.mk hbox; replace HB := bN bz hb; clear hb hbox hg))
 (try simp only [Act.put, List.setIfInBounds_toArray, List.set_cons_zero, List.set_cons_succ])
 go_cut [5] (fun v5 wc => ∃ (kq : Nat) (x5_2 : Bool), v5 = .bool x5_2 ∧ Aside0 (bigdec_cmp.j0 kq x5_2 a0_0 a0_1 a1_0 a1_1 = some r) ∧ Aside0 (kq ≤ k) ∧ Aside0 (wc.heap[gb124]? = some (.cells #[.string a0_0, .int .i64 a0_1] 28 (0, 0))) ∧ Aside0 (wc.heap[gb125]? = some (.cells #[.string a1_0, .int .i64 a1_1] 28 (0, 0))) ∧ Aside0 (Below w.heap.size w wc))
 case first =>
  have H := HC3.out
  clear HC3
  by_cases c6 : a0_0.toList = ([] : List UInt8)
  ·rw [if_pos c6] at H
   have c6b0 : (a0_0.toList == ([] : List UInt8)) = true := beq_iff_eq.mpr c6
   have c6b1 : (a0_0.toList != ([] : List UInt8)) = false := bne_eq_false_iff_eq.mpr c6
   have c6b7 : a0_0.toList.isEmpty = true := by simpa using c6b0
   clear c6
   try first | rw [c6b0] | rw [c6b1] | rw [c6b7]
   have H' := Aside0.mk H
   clear H
   have hnb7 := NB124_125.out
   have hnc7 := NB125_124.out
   obtain ⟨hcz8_0, hcz8_1, hfz8_0, hfz8_1⟩ := cz2 (W := w5) BK124
   go_wp2
   go_meet
   case rel => exact ⟨_, (true), rz, H', ⟨by first | omega | exact Nat.le_refl _⟩, ⟨bk⟩, ⟨bk⟩, ⟨bz⟩⟩
  ·rw [if_neg c6] at H
   have c6b0 : (a0_0.toList == ([] : List UInt8)) = false := beq_eq_false_iff_ne.mpr c6
   have c6b1 : (a0_0.toList != ([] : List UInt8)) = true := bne_iff_ne.mpr c6
   have c6b7 : a0_0.toList.isEmpty = false := by simpa using c6b0
   try first | rw [c6b0] | rw [c6b1] | rw [c6b7]
   have H' := Aside0.mk H
   clear H
   have hnb9 := NB124_125.out
   have hnc9 := NB125_124.out
   obtain ⟨hcz10_0, hcz10_1, hfz10_0, hfz10_1⟩ := cz2 (W := w5) BK124
   obtain ⟨hcz11_0, hcz11_1, hfz11_0, hfz11_1⟩ := cz2 (W := w5) BK125
   go_wp2
   go_meet
   case rel => exact ⟨_, ((a1_0.toList == ([] : List UInt8))), rz, H', ⟨by first | omega | exact Nat.le_refl _⟩, ⟨bk⟩, ⟨bk⟩, ⟨bz⟩⟩
 case rest =>
  clear HC3
  try clear c6
  try clear c6b0
  try clear c6b1
  try clear hcz10_0 hcz10_1 hfz10_0 hfz10_1
  try clear hcz11_0 hcz11_1 hfz11_0 hfz11_1
  try clear hcz8_0 hcz8_1 hfz8_0 hfz8_1
  obtain ⟨kq, x5_2, rfl, HA, HJ2, BK124, BK125, HB⟩ := hcut
  cases kq with
  | zero => exact absurd HA.out (by simp [bigdec_cmp.j0])
  | succ kj2 =>
   have H := HA.out
   clear HA
   simp only [bigdec_cmp.j0] at H
   by_cases c12 : x5_2 = true
   ·subst c12
    replace H := hT H
    replace H := bs H
    obtain ⟨t126, A13, H⟩ := H
    obtain rfl := Option.some.inj H
    have hnb14 := NB124_125.out
    have hnc14 := NB125_124.out
    obtain ⟨hcz15_0, hcz15_1, hfz15_0, hfz15_1⟩ := cz2 (W := wc) BK124
    obtain ⟨hcz16_0, hcz16_1, hfz16_0, hfz16_1⟩ := cz2 (W := wc) BK125
    go_wp2_with (first | ((with_reducible refine gate_callee (f := 61) rfl ?_); refine goesL_ (some 18) rfl rfl Tryd.func61 (by kernel_rfl) rfl #[.string a0_0, .string a1_0] rfl lz ?_; (with_reducible refine (strings_Compare.calls a0_0 a1_0 t126 _ A13.out).mono ?_); rintro e w17 ⟨rfl, hb⟩; refine ⟨_, rfl, ?_⟩; replace BK124 := kN (g := gb124) (cs := #[.string a0_0, .int .i64 a0_1]) hb bk; replace BK125 := kN (g := gb125) (cs := #[.string a1_0, .int .i64 a1_1]) hb bk; replace HB := bN bz hb; (try clear hb); (try clear hb2); (try clear hk); (try clear hi)))
    go_ret
    exact ⟨ez, bz⟩
   ·replace c12 := Bool.eq_false_iff.mpr c12
    subst c12
    replace H := hF H
    by_cases c18 : a0_1 < a1_1
    ·rw [if_pos c18] at H
     have c18b0 := decide_eq_true c18
     clear c18
     obtain rfl := Option.some.inj H
     have hnb19 := NB124_125.out
     have hnc19 := NB125_124.out
     obtain ⟨hcz20_0, hcz20_1, hfz20_0, hfz20_1⟩ := cz2 (W := wc) BK124
     obtain ⟨hcz21_0, hcz21_1, hfz21_0, hfz21_1⟩ := cz2 (W := wc) BK125
     go_wp2
     go_ret
     exact ⟨ez, bz⟩
    ·rw [if_neg c18] at H
     have c18b0 := decide_eq_false c18
     clear c18
     by_cases c22 : a0_1 > a1_1
     ·rw [if_pos c22] at H
      have c22b0 : decide (a1_1 < a0_1) = true := decide_eq_true c22
      clear c22
      obtain rfl := Option.some.inj H
      have hnb23 := NB124_125.out
      have hnc23 := NB125_124.out
      obtain ⟨hcz24_0, hcz24_1, hfz24_0, hfz24_1⟩ := cz2 (W := wc) BK124
      obtain ⟨hcz25_0, hcz25_1, hfz25_0, hfz25_1⟩ := cz2 (W := wc) BK125
      go_wp2
      go_ret
      exact ⟨ez, bz⟩
     ·rw [if_neg c22] at H
      have c22b0 : decide (a1_1 < a0_1) = false := decide_eq_false c22
      clear c22
      replace H := bs H
      obtain ⟨t127, A26, H⟩ := H
      obtain rfl := Option.some.inj H
      have hnb27 := NB124_125.out
      have hnc27 := NB125_124.out
      obtain ⟨hcz28_0, hcz28_1, hfz28_0, hfz28_1⟩ := cz2 (W := wc) BK124
      obtain ⟨hcz29_0, hcz29_1, hfz29_0, hfz29_1⟩ := cz2 (W := wc) BK125
      go_wp2_with (first | ((with_reducible refine gate_callee (f := 61) rfl ?_); refine goesL_ (some 35) rfl rfl Tryd.func61 (by kernel_rfl) rfl #[.string a0_0, .string a1_0] rfl lz ?_; (with_reducible refine (strings_Compare.calls a0_0 a1_0 t127 _ A26.out).mono ?_); rintro e w30 ⟨rfl, hb⟩; refine ⟨_, rfl, ?_⟩; replace BK124 := kN (g := gb124) (cs := #[.string a0_0, .int .i64 a0_1]) hb bk; replace BK125 := kN (g := gb125) (cs := #[.string a1_0, .int .i64 a1_1]) hb bk; replace HB := bN bz hb; (try clear hb); (try clear hb2); (try clear hk); (try clear hi)))
      go_ret
      exact ⟨ez, bz⟩
end Go.Proofs.YtmeapdchnnpceaaDoor.Fn
end
section
namespace Go.Proofs.YtmeapdchnnpceaaDoor.Fn
open Go.RowKit Go.Proofs.YtmeapdchnnpceaaDoorW.PrintWords Go.Proofs.YtmeapdchnnpceaaDoorW.PrintLast Go.Proofs.YtmeapdchnnpceaaDoorW.PrintMore
attribute [local go_sem] min2_int min_two
set_option linter.unusedVariables false
set_option linter.unusedSimpArgs false
def bigdec_two.f (k : Nat) (a0_0 : ByteArray) (a0_1 : Int) (a1_0 : ByteArray) (a1_1 : Int) : Option (ByteArray × Int × ByteArray × Int × Int) := (bigdec_Norm.f k a0_0 a0_1).bind fun bt118 => (if bt118.2.2 = 0 then ((bigdec_Norm.f k a1_0 a1_1).bind fun bt121 => (some (bt118.1, bt118.2.1, bt121.1, bt121.2.1, bt121.2.2))) else (some (bt118.1, bt118.2.1, a1_0, a1_1, bt118.2.2)))
set_option maxHeartbeats 8000000 in
set_option maxRecDepth 100000 in
theorem bigdec_two.calls (k : Nat) (a0_0 : ByteArray) (a0_1 : Int) (a1_0 : ByteArray) (a1_1 : Int) (r1 : ByteArray) (r2 : Int) (r3 : ByteArray) (r4 : Int) (r5 : Int) (w : World) (h : bigdec_two.f k a0_0 a0_1 a1_0 a1_1 = some (r1, r2, r3, r4, r5)) :
  Calls Tryd.prog 49 #[.agg #[.string a0_0, .int .i64 a0_1], .agg #[.string a1_0, .int .i64 a1_1]] w fun e w' => e = .returned (.tuple #[.agg #[.string r1, .int .i64 r2], .agg #[.string r3, .int .i64 r4], .int .i64 r5]) ∧ Below w.heap.size w w' := by
 have hu28 := Tryd.underlying28
 have HB := Aside0.mk (Below.refl w.heap.size w)
 have H : ((bigdec_Norm.f k a0_0 a0_1).bind fun bt118 => (if bt118.2.2 = 0 then ((bigdec_Norm.f k a1_0 a1_1).bind fun bt121 => (some (bt118.1, bt118.2.1, bt121.1, bt121.2.1, bt121.2.2))) else (some (bt118.1, bt118.2.1, a1_0, a1_1, bt118.2.2)))) = some (r1, r2, r3, r4, r5) := h
 clear h
 replace H := bs H
 obtain ⟨⟨t118, t119, t120⟩, A3, H⟩ := H
 dsimp only at H
 go_enter Tryd.func49, Tryd.ntmps49
 go_upto_if 14 with (first | ((with_reducible refine gate_dst (N := 2) rfl ?_); refine box_event rfl (N := 2) rfl (cs := #[.string a0_0, .int .i64 a0_1]) (t := 28) gz ?_; intro gb114 hg w4 hbox hb; have GE114 := gN bz hg; have BK114 := Aside0.mk hbox; replace HB := bN bz hb; clear hb hbox hg) | ((with_reducible refine gate_dst (N := 3) rfl ?_); refine box_event rfl (N := 3) rfl (cs := #[.string a1_0, .int .i64 a1_1]) (t := 28) gz ?_; intro gb115 hg w5 hbox hb; have GE115 := gN bz hg; have NB114_115 := lN (g := gb114) (cs := #[.string a0_0, .int .i64 a0_1]) hg bk; have NB115_114 := rN (g := gb114) (cs := #[.string a0_0, .int .i64 a0_1]) hg bk; replace BK114 := kN (g := gb114) (cs := #[.string a0_0, .int .i64 a0_1]) hb bk; have BK115 := Aside0.mk hbox; replace HB := bN bz hb; clear hb hbox hg) | ((with_reducible refine gate_dst (N := 4) rfl ?_); refine box_event rfl (N := 4) rfl (cs := #[.string (⟨#[]⟩ : ByteArray), .int .i64 0]) (t := 28) gz ?_; intro gb116 hg w6 hbox hb; have GE116 := gN bz hg; have NB114_116 := lN (g := gb114) (cs := #[.string a0_0, .int .i64 a0_1]) hg bk; have NB116_114 := rN (g := gb114) (cs := #[.string a0_0, .int .i64 a0_1]) hg bk; have NB115_116 := lN (g := gb115) (cs := #[.string a1_0, .int .i64 a1_1]) hg bk; have NB116_115 := rN (g := gb115) (cs := #[.string a1_0, .int .i64 a1_1]) hg bk; replace BK114 := kN (g := gb114) (cs := #[.string a0_0, .int .i64 a0_1]) hb bk; replace BK115 := kN (g := gb115) (cs := #[.string a1_0, .int .i64 a1_1]) hb bk; have BK116 := Aside0.mk hbox; replace HB := bN bz hb; clear hb hbox hg) | ((with_reducible refine gate_dst (N := 5) rfl ?_); refine box_event rfl (N := 5) rfl (cs := #[.string (⟨#[]⟩ : ByteArray), .int .i64 0]) (t := 28) gz ?_; intro gb117 hg w7 hbox hb; have GE117 := gN bz hg; have NB114_117 := lN (g := gb114) (cs := #[.string a0_0, .int .i64 a0_1]) hg bk; have NB117_114 := rN (g := gb114) (cs := #[.string a0_0, .int .i64 a0_1]) hg bk; have NB115_117 := lN (g := gb115) (cs := #[.string a1_0, .int .i64 a1_1]) hg bk; have NB117_115 := rN (g := gb115) (cs := #[.string a1_0, .int .i64 a1_1]) hg bk; have NB116_117 := lN (g := gb116) (cs := #[.string (⟨#[]⟩ : ByteArray), .int .i64 0]) hg bk; have NB117_116 := rN (g := gb116) (cs := #[.string (⟨#[]⟩ : ByteArray), .int .i64 0]) hg bk; replace BK114 := kN (g := gb114) (cs := #[.string a0_0, .int .i64 a0_1]) hb bk; replace BK115 := kN (g := gb115) (cs := #[.string a1_0, .int .i64 a1_1]) hb bk; replace BK116 := kN (g := gb116) (cs := #[.string (⟨#[]⟩ : ByteArray), .int .i64 0]) hb bk; have BK117 := Aside0.mk hbox; replace HB := bN bz hb; clear hb hbox hg; have hnb8 := NB114_115.out; have hnc8 := NB115_114.out; have hnb9 := NB114_116.out; have hnc9 := NB116_114.out; have hnb10 := NB114_117.out; have hnc10 := NB117_114.out; obtain ⟨hcz11_0, hcz11_1, hfz11_0, hfz11_1⟩ := cz2 (W := w7) BK114) | ((with_reducible refine gate_callee (f := 32) rfl ?_); refine goesL_ (some 10) rfl rfl Tryd.func32 (by kernel_rfl) rfl #[.agg #[.string a0_0, .int .i64 a0_1]] rfl lz ?_; (with_reducible refine (bigdec_Norm.calls k a0_0 a0_1 t118 t119 t120 _ A3.out).mono ?_); rintro e w12 ⟨rfl, hb⟩; refine ⟨_, rfl, ?_⟩; replace BK114 := kN (g := gb114) (cs := #[.string a0_0, .int .i64 a0_1]) hb bk; replace BK115 := kN (g := gb115) (cs := #[.string a1_0, .int .i64 a1_1]) hb bk; replace BK116 := kN (g := gb116) (cs := #[.string (⟨#[]⟩ : ByteArray), .int .i64 0]) hb bk; replace BK117 := kN (g := gb117) (cs := #[.string (⟨#[]⟩ : ByteArray), .int .i64 0]) hb bk; replace HB := bN bz hb; (try clear hb); (try clear hb2); (try clear hk); (try clear hi); obtain ⟨hcz13_0, hcz13_1, hfz13_0, hfz13_1⟩ := cz2 (W := w12) BK114))
 (try simp only [Act.put, List.setIfInBounds_toArray, List.set_cons_zero, List.set_cons_succ])
 by_cases c14 : t120 = 0
 ·rw [if_pos c14] at H
  obtain ⟨c14b0, c14b1⟩ := eT c14
  clear c14
  try first | rw [c14b0] | rw [c14b1]
  replace H := bs H
  obtain ⟨⟨t121, t122, t123⟩, A15, H⟩ := H
  dsimp only at H
  simp only [Option.some.injEq, Prod.mk.injEq] at H
  obtain ⟨rfl, rfl, rfl, rfl, rfl⟩ := H
  have hnb16 := NB115_114.out
  have hnc16 := NB114_115.out
  have hnb17 := NB115_116.out
  have hnc17 := NB116_115.out
  have hnb18 := NB115_117.out
  have hnc18 := NB117_115.out
  obtain ⟨hcz19_0, hcz19_1, hfz19_0, hfz19_1⟩ := cz2 (W := w12) BK115
  try go_wp2_with (first | ((with_reducible refine gate_callee (f := 32) rfl ?_); refine goesL_ (some 20) rfl rfl Tryd.func32 (by kernel_rfl) rfl #[.agg #[.string a1_0, .int .i64 a1_1]] rfl lz ?_; (with_reducible refine (bigdec_Norm.calls k a1_0 a1_1 t121 t122 t123 _ A15.out).mono ?_); rintro e w20 ⟨rfl, hb⟩; refine ⟨_, rfl, ?_⟩; replace BK114 := kN (g := gb114) (cs := #[.string t118, .int .i64 t119]) hb bk; replace BK115 := kN (g := gb115) (cs := #[.string a1_0, .int .i64 a1_1]) hb bk; replace BK116 := kN (g := gb116) (cs := #[.string (⟨#[]⟩ : ByteArray), .int .i64 0]) hb bk; replace BK117 := kN (g := gb117) (cs := #[.string (⟨#[]⟩ : ByteArray), .int .i64 0]) hb bk; replace HB := bN bz hb; (try clear hb); (try clear hb2); (try clear hk); (try clear hi); obtain ⟨hcz21_0, hcz21_1, hfz21_0, hfz21_1⟩ := cz2 (W := w20) BK115))
  have n0_ : Aside0 (((w20.setCell ⟨gb115, 0, none⟩ (.string t121)).setCell ⟨gb115, 1, none⟩ (.int .i64 t122)).heap[gb114]? = some (.cells #[.string t118, .int .i64 t119] 28 (0, 0))) := ⟨bk⟩
  have n1_ : Aside0 (((w20.setCell ⟨gb115, 0, none⟩ (.string t121)).setCell ⟨gb115, 1, none⟩ (.int .i64 t122)).heap[gb115]? = some (.cells #[.string t121, .int .i64 t122] 28 (0, 0))) := ⟨bk⟩
  have n2_ : Aside0 (((w20.setCell ⟨gb115, 0, none⟩ (.string t121)).setCell ⟨gb115, 1, none⟩ (.int .i64 t122)).heap[gb116]? = some (.cells #[.string (⟨#[]⟩ : ByteArray), .int .i64 0] 28 (0, 0))) := ⟨bk⟩
  have n3_ : Aside0 (((w20.setCell ⟨gb115, 0, none⟩ (.string t121)).setCell ⟨gb115, 1, none⟩ (.int .i64 t122)).heap[gb117]? = some (.cells #[.string (⟨#[]⟩ : ByteArray), .int .i64 0] 28 (0, 0))) := ⟨bk⟩
  have n4_ : Aside0 (Below w.heap.size w ((w20.setCell ⟨gb115, 0, none⟩ (.string t121)).setCell ⟨gb115, 1, none⟩ (.int .i64 t122))) := ⟨bz⟩
  (try clear BK114)
  (try clear BK115)
  (try clear BK116)
  (try clear BK117)
  (try clear HB)
  generalize ((w20.setCell ⟨gb115, 0, none⟩ (.string t121)).setCell ⟨gb115, 1, none⟩ (.int .i64 t122)) = w22 at n0_ n1_ n2_ n3_ n4_ ⊢
  have BK114 := n0_
  have BK115 := n1_
  have BK116 := n2_
  have BK117 := n3_
  have HB := n4_
  clear n0_ n1_ n2_ n3_ n4_
  replace BK114 := Aside0.mk (blk_drew BK114.out)
  replace BK115 := Aside0.mk (blk_drew BK115.out)
  replace BK116 := Aside0.mk (blk_drew BK116.out)
  replace BK117 := Aside0.mk (blk_drew BK117.out)
  replace HB := Aside0.mk (below_drew1 HB.out)
  refine start_ (n := 6) (S := fun w' => w'.cell? ⟨gb114, 0, none⟩ = some (.string t118) ∧ w'.cell? ⟨gb114, 1, none⟩ = some (.int .i64 t119) ∧ w'.cell? ⟨gb115, 0, none⟩ = some (.string t121) ∧ w'.cell? ⟨gb115, 1, none⟩ = some (.int .i64 t122)) (ds := []) #[false, false, false, false, false, false] (by kernel_rfl) rfl rfl ⟨(blk_cell BK114.out 0).trans rfl, (blk_cell BK114.out 1).trans rfl, (blk_cell BK115.out 0).trans rfl, (blk_cell BK115.out 1).trans rfl⟩ (fun hHeld => ?_)
  generalize w22.drew = w23 at BK114 BK115 BK116 BK117 HB hHeld ⊢
  refine pure_ (i := 2) (N := some 25) (v := ?_) (a' := ?_) #[false, false, true, false, false, false] rfl rfl (by kernel_rfl) (fun _ _ _ h => h) (Or.inl ⟨by rfl, ?_⟩) ?_ ?_
  rotate_left
  ·intro w'
   go_simp
   with_reducible rfl
  rotate_left
  ·simp only [Act.put, List.setIfInBounds_toArray, List.set_cons_zero, List.set_cons_succ, i64_w, i32_w]
   rfl
  refine take_ (i := 0) (N := some 23) (v := ?_) (a' := ?_) #[true, false, true, false, false, false] rfl rfl (by kernel_rfl) (fun _ _ _ h => h) (Or.inl ⟨by rfl, ?_⟩) hHeld ?_ ?_
  rotate_left
  ·rintro w' ⟨s0, s1, s2, s3⟩
   go_simp
   with_reducible rfl
  rotate_left
  ·simp only [Act.put, List.setIfInBounds_toArray, List.set_cons_zero, List.set_cons_succ, i64_w, i32_w]
   rfl
  refine take_ (i := 1) (N := some 24) (v := ?_) (a' := ?_) #[true, true, true, false, false, false] rfl rfl (by kernel_rfl) (fun _ _ _ h => h) (Or.inl ⟨by rfl, ?_⟩) hHeld ?_ ?_
  rotate_left
  ·rintro w' ⟨s0, s1, s2, s3⟩
   go_simp
   with_reducible rfl
  rotate_left
  ·simp only [Act.put, List.setIfInBounds_toArray, List.set_cons_zero, List.set_cons_succ, i64_w, i32_w]
   rfl
  refine one_ (i := 3) (N := none) #[true, true, true, true, false, false] rfl rfl (by kernel_rfl) (by decide) (fun K hK => ?_)
  have hs24 : w23.cell? ⟨gb116, 0, none⟩ = some (.string (⟨#[]⟩ : ByteArray)) := (blk_cell BK116.out 0).trans rfl
  have hfs24 := blk_frozen BK116.out 0
  have hns24_0 := NB114_116.out
  have hns24_1 := NB115_116.out
  have hns24_3 := NB117_116.out
  have hms24_0 := NB116_114.out
  have hms24_1 := NB116_115.out
  have hms24_3 := NB116_117.out
  have hs25 : w23.cell? ⟨gb116, 1, none⟩ = some (.int .i64 0) := (blk_cell BK116.out 1).trans rfl
  have hfs25 := blk_frozen BK116.out 1
  have hns25_0 := NB114_116.out
  have hns25_1 := NB115_116.out
  have hns25_3 := NB117_116.out
  have hms25_0 := NB116_114.out
  have hms25_1 := NB116_115.out
  have hms25_3 := NB116_117.out
  refine skip_ (w1 := ?_) (by rfl) rfl ?_ ?_
  rotate_left
  ·go_simp
   rfl
  refine hK.out _ _ ⟨((cell_far (p := ⟨gb116, _, none⟩) NB114_116.out _).trans (((cell_far (p := ⟨gb116, _, none⟩) NB114_116.out _).trans (hHeld.1)))), ((cell_far (p := ⟨gb116, _, none⟩) NB114_116.out _).trans (((cell_far (p := ⟨gb116, _, none⟩) NB114_116.out _).trans (hHeld.2.1)))), ((cell_far (p := ⟨gb116, _, none⟩) NB115_116.out _).trans (((cell_far (p := ⟨gb116, _, none⟩) NB115_116.out _).trans (hHeld.2.2.1)))), ((cell_far (p := ⟨gb116, _, none⟩) NB115_116.out _).trans (((cell_far (p := ⟨gb116, _, none⟩) NB115_116.out _).trans (hHeld.2.2.2))))⟩ (fun hHeld => ?_)
  clear hK K
  refine one_ (i := 4) (N := none) #[true, true, true, true, true, false] rfl rfl (by kernel_rfl) (by decide) (fun K hK => ?_)
  have hs26 : w23.cell? ⟨gb117, 0, none⟩ = some (.string (⟨#[]⟩ : ByteArray)) := (blk_cell BK117.out 0).trans rfl
  have hfs26 := blk_frozen BK117.out 0
  have hns26_0 := NB114_117.out
  have hns26_1 := NB115_117.out
  have hns26_2 := NB116_117.out
  have hms26_0 := NB117_114.out
  have hms26_1 := NB117_115.out
  have hms26_2 := NB117_116.out
  have hs27 : w23.cell? ⟨gb117, 1, none⟩ = some (.int .i64 0) := (blk_cell BK117.out 1).trans rfl
  have hfs27 := blk_frozen BK117.out 1
  have hns27_0 := NB114_117.out
  have hns27_1 := NB115_117.out
  have hns27_2 := NB116_117.out
  have hms27_0 := NB117_114.out
  have hms27_1 := NB117_115.out
  have hms27_2 := NB117_116.out
  refine skip_ (w1 := ?_) (by rfl) rfl ?_ ?_
  rotate_left
  ·go_simp
   rfl
  refine hK.out _ _ ⟨((cell_far (p := ⟨gb117, _, none⟩) NB114_117.out _).trans (((cell_far (p := ⟨gb117, _, none⟩) NB114_117.out _).trans (hHeld.1)))), ((cell_far (p := ⟨gb117, _, none⟩) NB114_117.out _).trans (((cell_far (p := ⟨gb117, _, none⟩) NB114_117.out _).trans (hHeld.2.1)))), ((cell_far (p := ⟨gb117, _, none⟩) NB115_117.out _).trans (((cell_far (p := ⟨gb117, _, none⟩) NB115_117.out _).trans (hHeld.2.2.1)))), ((cell_far (p := ⟨gb117, _, none⟩) NB115_117.out _).trans (((cell_far (p := ⟨gb117, _, none⟩) NB115_117.out _).trans (hHeld.2.2.2))))⟩ (fun hHeld => ?_)
  clear hK K
  refine pure_ (i := 5) (N := some 6) (v := ?_) (a' := ?_) #[true, true, true, true, true, true] rfl rfl (by kernel_rfl) (fun _ _ _ h => h) (Or.inl ⟨by rfl, ?_⟩) ?_ ?_
  rotate_left
  ·intro w'
   go_simp
   with_reducible rfl
  rotate_left
  ·simp only [Act.put, List.setIfInBounds_toArray, List.set_cons_zero, List.set_cons_succ, i64_w, i32_w]
   rfl
  refine done_ (by kernel_rfl) ?_
  try go_wp2
  refine bodyPost_ret (results_list (rs := [.cell 4 28, .cell 5 28, .tmp 6]) rfl (by simp) (.cell gb116 28 #[.string t118, .int .i64 t119] (0, 0) _ rfl bk Tryd.underlying28 rfl (by kernel_rfl) (.cell gb117 28 #[.string t121, .int .i64 t122] (0, 0) _ rfl bk Tryd.underlying28 rfl (by kernel_rfl) (.tmp .nil)))) rfl ?_
  exact ⟨ez, bz⟩
 ·rw [if_neg c14] at H
  obtain ⟨c14b0, c14b1⟩ := eF c14
  try first | rw [c14b0] | rw [c14b1]
  simp only [Option.some.injEq, Prod.mk.injEq] at H
  obtain ⟨rfl, rfl, rfl, rfl, rfl⟩ := H
  try go_wp2
  have n0_ : Aside0 (((w12.setCell ⟨gb114, 0, none⟩ (.string t118)).setCell ⟨gb114, 1, none⟩ (.int .i64 t119)).heap[gb114]? = some (.cells #[.string t118, .int .i64 t119] 28 (0, 0))) := ⟨bk⟩
  have n1_ : Aside0 (((w12.setCell ⟨gb114, 0, none⟩ (.string t118)).setCell ⟨gb114, 1, none⟩ (.int .i64 t119)).heap[gb115]? = some (.cells #[.string a1_0, .int .i64 a1_1] 28 (0, 0))) := ⟨bk⟩
  have n2_ : Aside0 (((w12.setCell ⟨gb114, 0, none⟩ (.string t118)).setCell ⟨gb114, 1, none⟩ (.int .i64 t119)).heap[gb116]? = some (.cells #[.string (⟨#[]⟩ : ByteArray), .int .i64 0] 28 (0, 0))) := ⟨bk⟩
  have n3_ : Aside0 (((w12.setCell ⟨gb114, 0, none⟩ (.string t118)).setCell ⟨gb114, 1, none⟩ (.int .i64 t119)).heap[gb117]? = some (.cells #[.string (⟨#[]⟩ : ByteArray), .int .i64 0] 28 (0, 0))) := ⟨bk⟩
  have n4_ : Aside0 (Below w.heap.size w ((w12.setCell ⟨gb114, 0, none⟩ (.string t118)).setCell ⟨gb114, 1, none⟩ (.int .i64 t119))) := ⟨bz⟩
  (try clear BK114)
  (try clear BK115)
  (try clear BK116)
  (try clear BK117)
  (try clear HB)
  generalize ((w12.setCell ⟨gb114, 0, none⟩ (.string t118)).setCell ⟨gb114, 1, none⟩ (.int .i64 t119)) = w28 at n0_ n1_ n2_ n3_ n4_ ⊢
  have BK114 := n0_
  have BK115 := n1_
  have BK116 := n2_
  have BK117 := n3_
  have HB := n4_
  clear n0_ n1_ n2_ n3_ n4_
  replace BK114 := Aside0.mk (blk_drew BK114.out)
  replace BK115 := Aside0.mk (blk_drew BK115.out)
  replace BK116 := Aside0.mk (blk_drew BK116.out)
  replace BK117 := Aside0.mk (blk_drew BK117.out)
  replace HB := Aside0.mk (below_drew1 HB.out)
  refine start_ (n := 6) (S := fun w' => w'.cell? ⟨gb114, 0, none⟩ = some (.string t118) ∧ w'.cell? ⟨gb114, 1, none⟩ = some (.int .i64 t119) ∧ w'.cell? ⟨gb115, 0, none⟩ = some (.string a1_0) ∧ w'.cell? ⟨gb115, 1, none⟩ = some (.int .i64 a1_1)) (ds := []) #[false, false, false, false, false, false] (by kernel_rfl) rfl rfl ⟨(blk_cell BK114.out 0).trans rfl, (blk_cell BK114.out 1).trans rfl, (blk_cell BK115.out 0).trans rfl, (blk_cell BK115.out 1).trans rfl⟩ (fun hHeld => ?_)
  generalize w28.drew = w29 at BK114 BK115 BK116 BK117 HB hHeld ⊢
  refine pure_ (i := 2) (N := some 17) (v := ?_) (a' := ?_) #[false, false, true, false, false, false] rfl rfl (by kernel_rfl) (fun _ _ _ h => h) (Or.inl ⟨by rfl, ?_⟩) ?_ ?_
  rotate_left
  ·intro w'
   go_simp
   with_reducible rfl
  rotate_left
  ·simp only [Act.put, List.setIfInBounds_toArray, List.set_cons_zero, List.set_cons_succ, i64_w, i32_w]
   rfl
  refine take_ (i := 0) (N := some 15) (v := ?_) (a' := ?_) #[true, false, true, false, false, false] rfl rfl (by kernel_rfl) (fun _ _ _ h => h) (Or.inl ⟨by rfl, ?_⟩) hHeld ?_ ?_
  rotate_left
  ·rintro w' ⟨s0, s1, s2, s3⟩
   go_simp
   with_reducible rfl
  rotate_left
  ·simp only [Act.put, List.setIfInBounds_toArray, List.set_cons_zero, List.set_cons_succ, i64_w, i32_w]
   rfl
  refine take_ (i := 1) (N := some 16) (v := ?_) (a' := ?_) #[true, true, true, false, false, false] rfl rfl (by kernel_rfl) (fun _ _ _ h => h) (Or.inl ⟨by rfl, ?_⟩) hHeld ?_ ?_
  rotate_left
  ·rintro w' ⟨s0, s1, s2, s3⟩
   go_simp
   with_reducible rfl
  rotate_left
  ·simp only [Act.put, List.setIfInBounds_toArray, List.set_cons_zero, List.set_cons_succ, i64_w, i32_w]
   rfl
  refine one_ (i := 3) (N := none) #[true, true, true, true, false, false] rfl rfl (by kernel_rfl) (by decide) (fun K hK => ?_)
  have hs30 : w29.cell? ⟨gb116, 0, none⟩ = some (.string (⟨#[]⟩ : ByteArray)) := (blk_cell BK116.out 0).trans rfl
  have hfs30 := blk_frozen BK116.out 0
  have hns30_0 := NB114_116.out
  have hns30_1 := NB115_116.out
  have hns30_3 := NB117_116.out
  have hms30_0 := NB116_114.out
  have hms30_1 := NB116_115.out
  have hms30_3 := NB116_117.out
  have hs31 : w29.cell? ⟨gb116, 1, none⟩ = some (.int .i64 0) := (blk_cell BK116.out 1).trans rfl
  have hfs31 := blk_frozen BK116.out 1
  have hns31_0 := NB114_116.out
  have hns31_1 := NB115_116.out
  have hns31_3 := NB117_116.out
  have hms31_0 := NB116_114.out
  have hms31_1 := NB116_115.out
  have hms31_3 := NB116_117.out
  refine skip_ (w1 := ?_) (by rfl) rfl ?_ ?_
  rotate_left
  ·go_simp
   rfl
  refine hK.out _ _ ⟨((cell_far (p := ⟨gb116, _, none⟩) NB114_116.out _).trans (((cell_far (p := ⟨gb116, _, none⟩) NB114_116.out _).trans (hHeld.1)))), ((cell_far (p := ⟨gb116, _, none⟩) NB114_116.out _).trans (((cell_far (p := ⟨gb116, _, none⟩) NB114_116.out _).trans (hHeld.2.1)))), ((cell_far (p := ⟨gb116, _, none⟩) NB115_116.out _).trans (((cell_far (p := ⟨gb116, _, none⟩) NB115_116.out _).trans (hHeld.2.2.1)))), ((cell_far (p := ⟨gb116, _, none⟩) NB115_116.out _).trans (((cell_far (p := ⟨gb116, _, none⟩) NB115_116.out _).trans (hHeld.2.2.2))))⟩ (fun hHeld => ?_)
  clear hK K
  refine one_ (i := 4) (N := none) #[true, true, true, true, true, false] rfl rfl (by kernel_rfl) (by decide) (fun K hK => ?_)
  have hs32 : w29.cell? ⟨gb117, 0, none⟩ = some (.string (⟨#[]⟩ : ByteArray)) := (blk_cell BK117.out 0).trans rfl
  have hfs32 := blk_frozen BK117.out 0
  have hns32_0 := NB114_117.out
  have hns32_1 := NB115_117.out
  have hns32_2 := NB116_117.out
  have hms32_0 := NB117_114.out
  have hms32_1 := NB117_115.out
  have hms32_2 := NB117_116.out
  have hs33 : w29.cell? ⟨gb117, 1, none⟩ = some (.int .i64 0) := (blk_cell BK117.out 1).trans rfl
  have hfs33 := blk_frozen BK117.out 1
  have hns33_0 := NB114_117.out
  have hns33_1 := NB115_117.out
  have hns33_2 := NB116_117.out
  have hms33_0 := NB117_114.out
  have hms33_1 := NB117_115.out
  have hms33_2 := NB117_116.out
  refine skip_ (w1 := ?_) (by rfl) rfl ?_ ?_
  rotate_left
  ·go_simp
   rfl
  refine hK.out _ _ ⟨((cell_far (p := ⟨gb117, _, none⟩) NB114_117.out _).trans (((cell_far (p := ⟨gb117, _, none⟩) NB114_117.out _).trans (hHeld.1)))), ((cell_far (p := ⟨gb117, _, none⟩) NB114_117.out _).trans (((cell_far (p := ⟨gb117, _, none⟩) NB114_117.out _).trans (hHeld.2.1)))), ((cell_far (p := ⟨gb117, _, none⟩) NB115_117.out _).trans (((cell_far (p := ⟨gb117, _, none⟩) NB115_117.out _).trans (hHeld.2.2.1)))), ((cell_far (p := ⟨gb117, _, none⟩) NB115_117.out _).trans (((cell_far (p := ⟨gb117, _, none⟩) NB115_117.out _).trans (hHeld.2.2.2))))⟩ (fun hHeld => ?_)
  clear hK K
  refine pure_ (i := 5) (N := some 6) (v := ?_) (a' := ?_) #[true, true, true, true, true, true] rfl rfl (by kernel_rfl) (fun _ _ _ h => h) (Or.inl ⟨by rfl, ?_⟩) ?_ ?_
  rotate_left
  ·intro w'
   go_simp
   with_reducible rfl
  rotate_left
  ·simp only [Act.put, List.setIfInBounds_toArray, List.set_cons_zero, List.set_cons_succ, i64_w, i32_w]
   rfl
  refine done_ (by kernel_rfl) ?_
  try go_wp2
  refine bodyPost_ret (results_list (rs := [.cell 4 28, .cell 5 28, .tmp 6]) rfl (by simp) (.cell gb116 28 #[.string t118, .int .i64 t119] (0, 0) _ rfl bk Tryd.underlying28 rfl (by kernel_rfl) (.cell gb117 28 #[.string a1_0, .int .i64 a1_1] (0, 0) _ rfl bk Tryd.underlying28 rfl (by kernel_rfl) (.tmp .nil)))) rfl ?_
  exact ⟨ez, bz⟩
end Go.Proofs.YtmeapdchnnpceaaDoor.Fn
end
section
namespace Go.Proofs.YtmeapdchnnpceaaDoor.Fn
open Go.RowKit Go.Proofs.YtmeapdchnnpceaaDoorW.PrintWords Go.Proofs.YtmeapdchnnpceaaDoorW.PrintLast Go.Proofs.YtmeapdchnnpceaaDoorW.PrintMore
attribute [local go_sem] min2_int min_two
set_option linter.unusedVariables false
set_option linter.unusedSimpArgs false
def platenref04_digit.f (a0_0 : ByteArray) (a0_1 : Int) (a1 : Int) : Option (Int) := if (wrap64 ((wrap64 (a0_1 - 1)) - a1)) < 0 then (some 0) else (if (wrap64 ((wrap64 (a0_1 - 1)) - a1)) ≥ (a0_0.size : Int) then (some 0) else (if 0 ≤ (wrap64 ((wrap64 (a0_1 - 1)) - a1)) then (if (wrap64 ((wrap64 (a0_1 - 1)) - a1)) < (a0_0.size : Int) then (some (((bt a0_0 (wrap64 ((wrap64 (a0_1 - 1)) - a1))) - 48) % 256)) else (none)) else (none)))
set_option maxHeartbeats 8000000 in
set_option maxRecDepth 100000 in
theorem platenref04_digit.calls (a0_0 : ByteArray) (a0_1 : Int) (a1 : Int) (r : Int) (w : World) (h : platenref04_digit.f a0_0 a0_1 a1 = some r) :
  Calls Tryd.prog 58 #[.agg #[.string a0_0, .int .i64 a0_1], .int .i64 a1] w fun e w' => e = .returned (.int .i64 r) ∧ Below w.heap.size w w' := by
 have hu28 := Tryd.underlying28
 have HB := Aside0.mk (Below.refl w.heap.size w)
 have H : (if (wrap64 ((wrap64 (a0_1 - 1)) - a1)) < 0 then (some 0) else (if (wrap64 ((wrap64 (a0_1 - 1)) - a1)) ≥ (a0_0.size : Int) then (some 0) else (if 0 ≤ (wrap64 ((wrap64 (a0_1 - 1)) - a1)) then (if (wrap64 ((wrap64 (a0_1 - 1)) - a1)) < (a0_0.size : Int) then (some (((bt a0_0 (wrap64 ((wrap64 (a0_1 - 1)) - a1))) - 48) % 256)) else (none)) else (none)))) = some r := h
 clear h
 by_cases c3 : (wrap64 ((wrap64 (a0_1 - 1)) - a1)) < 0
 ·rw [if_pos c3] at H
  have c3b0 := decide_eq_true c3
  clear c3
  obtain rfl := Option.some.inj H
  go_enter Tryd.func58, Tryd.ntmps58
  go_wp2_with (first | ((with_reducible refine gate_dst (N := 2) rfl ?_); (try (refine gate_guard (by rfl) ?_; dsimp only)); refine box_event rfl (N := 2) rfl (cs := #[.string a0_0, .int .i64 a0_1]) (t := 28) gz ?_; intro gb467 hg w4 hbox hb; have GW467 := gN bz hg; have GE467 := gN bz hg; have BK467 := Aside0.mk hbox; replace HB := bN bz hb; clear hb hbox hg; obtain ⟨hcz5_0, hcz5_1, hfz5_0, hfz5_1⟩ := cz2 (W := w4) BK467))
  go_ret
  exact ⟨ez, bz⟩
 ·rw [if_neg c3] at H
  have c3b0 := decide_eq_false c3
  clear c3
  go_enter Tryd.func58, Tryd.ntmps58
  go_upto_if 19 with (first | ((with_reducible refine gate_dst (N := 2) rfl ?_); (try (refine gate_guard (by rfl) ?_; dsimp only)); refine box_event rfl (N := 2) rfl (cs := #[.string a0_0, .int .i64 a0_1]) (t := 28) gz ?_; intro gb467 hg w6 hbox hb; have GW467 := gN bz hg; have GE467 := gN bz hg; have BK467 := Aside0.mk hbox; replace HB := bN bz hb; clear hb hbox hg; obtain ⟨hcz7_0, hcz7_1, hfz7_0, hfz7_1⟩ := cz2 (W := w6) BK467))
  (try simp only [Act.put, List.setIfInBounds_toArray, List.set_cons_zero, List.set_cons_succ])
  by_cases c8 : (wrap64 ((wrap64 (a0_1 - 1)) - a1)) ≥ (a0_0.size : Int)
  ·rw [if_pos c8] at H
   have c8b0 : decide ((a0_0.size : Int) ≤ (wrap64 ((wrap64 (a0_1 - 1)) - a1))) = true := decide_eq_true c8
   clear c8
   (first | rw [c8b0] | (simp only [i64_w, i32_w]; rw [c8b0]) | skip)
   obtain rfl := Option.some.inj H
   go_wp2
   go_ret
   exact ⟨ez, bz⟩
  ·rw [if_neg c8] at H
   have c8b0 : decide ((a0_0.size : Int) ≤ (wrap64 ((wrap64 (a0_1 - 1)) - a1))) = false := decide_eq_false c8
   clear c8
   (first | rw [c8b0] | (simp only [i64_w, i32_w]; rw [c8b0]) | skip)
   obtain ⟨ji9, hji9⟩ : ∃ j_ : Int, (wrap64 ((wrap64 (a0_1 - 1)) - a1)) = j_ := ⟨_, rfl⟩
   (first | rw [hji9] at H | simp only [hji9] at H)
   (try rw [hji9] at c3b0)
   (try rw [hji9] at c8b0)
   have hji9w : (IntKind.i64.wrap ((wrap64 (a0_1 - 1)) - a1)) = ji9 := (i64_w _).trans hji9
   by_cases c10 : 0 ≤ (ji9)
   ·rw [if_pos c10] at H
    have c10b0 := decide_eq_true c10
    clear c10
    by_cases c11 : (ji9) < (a0_0.size : Int)
    ·rw [if_pos c11] at H
     have c11b0 := decide_eq_true c11
     clear c11
     obtain rfl := Option.some.inj H
     obtain ⟨hcz13_0, hcz13_1, hfz13_0, hfz13_1⟩ := cz2 (W := w6) BK467
     have p12 : 0 ≤ ((ji9) : Int) := of_decide_eq_true (by first | (with_reducible assumption) | assumption)
     have q12 : (ji9) < (a0_0.size : Int) := of_decide_eq_true (by first | (with_reducible assumption) | assumption)
     have hx12 := bt_at a0_0 (ji9)
     replace p12 := eq_true p12
     replace q12 := eq_true q12
     go_wp2
     go_ret
     exact ⟨by first | rfl | (simp [errW_none, errW_some] <;> rfl) | (simp only [← hji9]; first | rfl | (simp [errW_none, errW_some] <;> rfl)) | (simp [*, errW_none, errW_some] <;> rfl), bz⟩
    ·rw [if_neg c11] at H
     exact absurd H (by simp)
   ·rw [if_neg c10] at H
    exact absurd H (by simp)
end Go.Proofs.YtmeapdchnnpceaaDoor.Fn
end
section
namespace Go.Proofs.YtmeapdchnnpceaaDoor.Fn
open Go.RowKit Go.Proofs.YtmeapdchnnpceaaDoorW.PrintWords Go.Proofs.YtmeapdchnnpceaaDoorW.PrintLast Go.Proofs.YtmeapdchnnpceaaDoorW.PrintMore
attribute [local go_sem] min2_int min_two
set_option linter.unusedVariables false
set_option linter.unusedSimpArgs false
def platenref04_low.f (a0_0 : ByteArray) (a0_1 : Int) : Option (Int) := some (wrap64 (a0_1 - (a0_0.size : Int)))
set_option maxHeartbeats 8000000 in
set_option maxRecDepth 100000 in
theorem platenref04_low.calls (a0_0 : ByteArray) (a0_1 : Int) (r : Int) (w : World) (h : platenref04_low.f a0_0 a0_1 = some r) :
  Calls Tryd.prog 57 #[.agg #[.string a0_0, .int .i64 a0_1]] w fun e w' => e = .returned (.int .i64 r) ∧ Below w.heap.size w w' := by
 have hu28 := Tryd.underlying28
 have HB := Aside0.mk (Below.refl w.heap.size w)
 have H : (some (wrap64 (a0_1 - (a0_0.size : Int)))) = some r := h
 clear h
 obtain rfl := Option.some.inj H
 go_enter Tryd.func57, Tryd.ntmps57
 go_wp2_with (first | ((with_reducible refine gate_dst (N := 1) rfl ?_); refine box_event rfl (N := 1) rfl (cs := #[.string a0_0, .int .i64 a0_1]) (t := 28) gz ?_; intro gb466 hg w2 hbox hb; have GE466 := gN bz hg; have BK466 := Aside0.mk hbox; replace HB := bN bz hb; clear hb hbox hg; obtain ⟨hcz3_0, hcz3_1, hfz3_0, hfz3_1⟩ := cz2 (W := w2) BK466))
 go_ret
 exact ⟨ez, bz⟩
end Go.Proofs.YtmeapdchnnpceaaDoor.Fn
end
section
namespace Go.Proofs.YtmeapdchnnpceaaDoor.Fn
open Go.RowKit Go.Proofs.YtmeapdchnnpceaaDoorW.PrintWords Go.Proofs.YtmeapdchnnpceaaDoorW.PrintLast Go.Proofs.YtmeapdchnnpceaaDoorW.PrintMore
attribute [local go_sem] min2_int min_two
set_option linter.unusedVariables false
set_option linter.unusedSimpArgs false
mutual
def platenref04_Compare.j0 : Nat → Bool → ByteArray → Int → ByteArray → Int → Option (Int)
 | 0, _, _, _, _, _ => none
 | k + 1, x17, x483000, x483001, x484000, x484001 => if x17 = true then (some 0) else (if x483000.toList = ([] : List UInt8) then (some (-1)) else (if x484000.toList = ([] : List UInt8) then (some 1) else ((platenref04_low.f x483000 x483001).bind fun t484 => (if x484001 > x483001 then (platenref04_Compare.j1 k x484001 t484 x483000 x483001 x484000 x484001) else (platenref04_Compare.j1 k x483001 t484 x483000 x483001 x484000 x484001)))))
def platenref04_Compare.j1 : Nat → Int → Int → ByteArray → Int → ByteArray → Int → Option (Int)
 | 0, _, _, _, _, _, _ => none
 | k + 1, x5, x6, x483000, x483001, x484000, x484001 => (platenref04_low.f x484000 x484001).bind fun t485 => (if t485 < x6 then ((platenref04_low.f x484000 x484001).bind fun t486 => (platenref04_Compare.j2 k x5 t486 x483000 x483001 x484000 x484001)) else (platenref04_Compare.j2 k x5 x6 x483000 x483001 x484000 x484001))
def platenref04_Compare.j2 : Nat → Int → Int → ByteArray → Int → ByteArray → Int → Option (Int)
 | 0, _, _, _, _, _, _ => none
 | k + 1, x5, x6, x483000, x483001, x484000, x484001 => platenref04_Compare.l0 k x6 x5 x483000 x483001 x484000 x484001
def platenref04_Compare.l0 : Nat → Int → Int → ByteArray → Int → ByteArray → Int → Option (Int)
 | 0, _, _, _, _, _, _ => none
 | k + 1, x6, x7, x483000, x483001, x484000, x484001 => if x7 ≥ x6 then ((platenref04_digit.f x483000 x483001 x7).bind fun t487 => ((platenref04_digit.f x484000 x484001 x7).bind fun t488 => (if t487 < t488 then (some (-1)) else (if t487 > t488 then (some 1) else (platenref04_Compare.l0 k x6 (wrap64 (x7 - 1)) x483000 x483001 x484000 x484001))))) else (some 0)
end
def platenref04_Compare.f (k : Nat) (a0_0 : ByteArray) (a0_1 : Int) (a1_0 : ByteArray) (a1_1 : Int) : Option (Int) := if a0_0.toList = ([] : List UInt8) then (platenref04_Compare.j0 k (a1_0.toList == ([] : List UInt8)) a0_0 a0_1 a1_0 a1_1) else (platenref04_Compare.j0 k false a0_0 a0_1 a1_0 a1_1)
def platenref04_Compare.T15 : Bool × List (List Nat × List Nat) := (true, [([], []), ([], []), ([0, 1], [0, 1]), ([], []), ([], []), ([3, 4, 2], [3, 4]), ([2, 5, 0, 1, 2], [2]), ([5, 6, 0, 1, 2, 3, 4, 5, 6], [5])])
def platenref04_Compare.B15 : List Nat := [0, 0, 3, 0, 0, 31, 63, 127]
theorem platenref04_Compare.tab15 : rtab .any (opsOf Tryd.f60 15) = platenref04_Compare.T15 := by kernel_rfl
theorem platenref04_Compare.bits15 : waitsOk platenref04_Compare.T15.2 platenref04_Compare.B15 = true := by kernel_rfl
set_option maxHeartbeats 8000000 in
set_option maxRecDepth 100000 in
theorem platenref04_Compare.calls (k : Nat) (a0_0 : ByteArray) (a0_1 : Int) (a1_0 : ByteArray) (a1_1 : Int) (r : Int) (w : World) (h : platenref04_Compare.f k a0_0 a0_1 a1_0 a1_1 = some r) :
  Calls Tryd.prog 60 #[.agg #[.string a0_0, .int .i64 a0_1], .agg #[.string a1_0, .int .i64 a1_1]] w fun e w' => e = .returned (.int .i64 r) ∧ Below w.heap.size w w' := by
 have hu28 := Tryd.underlying28
 have HB := Aside0.mk (Below.refl w.heap.size w)
 have H : (if a0_0.toList = ([] : List UInt8) then (platenref04_Compare.j0 k (a1_0.toList == ([] : List UInt8)) a0_0 a0_1 a1_0 a1_1) else (platenref04_Compare.j0 k false a0_0 a0_1 a1_0 a1_1)) = some r := h
 clear h
 have HC3 := Aside0.mk H
 clear H
 go_enter Tryd.func60, Tryd.ntmps60
 go_upto_region 1 with (first | ((with_reducible refine gate_dst (N := 2) rfl ?_); refine box_event rfl (N := 2) rfl (cs := #[.string a0_0, .int .i64 a0_1]) (t := 28) gz ?_; intro gb482 hg w4 hbox hb; have GE482 := gN bz hg; have BK482 := Aside0.mk hbox; replace HB := bN bz hb; clear hb hbox hg) | ((with_reducible refine gate_dst (N := 3) rfl ?_); refine box_event rfl (N := 3) rfl (cs := #[.string a1_0, .int .i64 a1_1]) (t := 28) gz ?_; intro gb483 hg w5 hbox hb; have GE483 := gN bz hg; have NB482_483 := lN (g := gb482) (cs := #[.string a0_0, .int .i64 a0_1]) hg bk; have NB483_482 := rN (g := gb482) (cs := #[.string a0_0, .int .i64 a0_1]) hg bk; replace BK482 := kN (g := gb482) (cs := #[.string a0_0, .int .i64 a0_1]) hb bk; have BK483 := Aside0.mk hbox; replace HB := bN bz hb; clear hb hbox hg))
 (try simp only [Act.put, List.setIfInBounds_toArray, List.set_cons_zero, List.set_cons_succ])
 go_cut [17] (fun v17 wc => ∃ (kq : Nat) (x17_2 : Bool), v17 = .bool x17_2 ∧ Aside0 (platenref04_Compare.j0 kq x17_2 a0_0 a0_1 a1_0 a1_1 = some r) ∧ Aside0 (kq ≤ k) ∧ Aside0 (wc.heap[gb482]? = some (.cells #[.string a0_0, .int .i64 a0_1] 28 (0, 0))) ∧ Aside0 (wc.heap[gb483]? = some (.cells #[.string a1_0, .int .i64 a1_1] 28 (0, 0))) ∧ Aside0 (Below w.heap.size w wc))
 case first =>
  have H := HC3.out
  clear HC3
  by_cases c6 : a0_0.toList = ([] : List UInt8)
  ·rw [if_pos c6] at H
   have c6b0 : (a0_0.toList == ([] : List UInt8)) = true := beq_iff_eq.mpr c6
   have c6b1 : (a0_0.toList != ([] : List UInt8)) = false := bne_eq_false_iff_eq.mpr c6
   have c6b7 : a0_0.toList.isEmpty = true := by simpa using c6b0
   clear c6
   try first | rw [c6b0] | rw [c6b1] | rw [c6b7]
   have H' := Aside0.mk H
   clear H
   have hnb7 := NB482_483.out
   have hnc7 := NB483_482.out
   obtain ⟨hcz8_0, hcz8_1, hfz8_0, hfz8_1⟩ := cz2 (W := w5) BK482
   obtain ⟨hcz9_0, hcz9_1, hfz9_0, hfz9_1⟩ := cz2 (W := w5) BK483
   go_wp2
   go_meet
   case rel => exact ⟨_, ((a1_0.toList == ([] : List UInt8))), rz, H', ⟨by first | omega | exact Nat.le_refl _⟩, ⟨bk⟩, ⟨bk⟩, ⟨bz⟩⟩
  ·rw [if_neg c6] at H
   have c6b0 : (a0_0.toList == ([] : List UInt8)) = false := beq_eq_false_iff_ne.mpr c6
   have c6b1 : (a0_0.toList != ([] : List UInt8)) = true := bne_iff_ne.mpr c6
   have c6b7 : a0_0.toList.isEmpty = false := by simpa using c6b0
   try first | rw [c6b0] | rw [c6b1] | rw [c6b7]
   have H' := Aside0.mk H
   clear H
   have hnb10 := NB482_483.out
   have hnc10 := NB483_482.out
   obtain ⟨hcz11_0, hcz11_1, hfz11_0, hfz11_1⟩ := cz2 (W := w5) BK482
   go_wp2
   go_meet
   case rel => exact ⟨_, (false), rz, H', ⟨by first | omega | exact Nat.le_refl _⟩, ⟨bk⟩, ⟨bk⟩, ⟨bz⟩⟩
 case rest =>
  clear HC3
  try clear c6
  try clear c6b0
  try clear c6b1
  try clear hcz11_0 hcz11_1 hfz11_0 hfz11_1
  try clear hcz8_0 hcz8_1 hfz8_0 hfz8_1
  try clear hcz9_0 hcz9_1 hfz9_0 hfz9_1
  obtain ⟨kq, x17_2, rfl, HA, HJ2, BK482, BK483, HB⟩ := hcut
  cases kq with
  | zero => exact absurd HA.out (by simp [platenref04_Compare.j0])
  | succ kj2 =>
   have H := HA.out
   clear HA
   simp only [platenref04_Compare.j0] at H
   by_cases c12 : x17_2 = true
   ·subst c12
    replace H := hT H
    obtain rfl := Option.some.inj H
    go_wp2
    go_ret
    exact ⟨ez, bz⟩
   ·replace c12 := Bool.eq_false_iff.mpr c12
    subst c12
    replace H := hF H
    by_cases c13 : a0_0.toList = ([] : List UInt8)
    ·rw [if_pos c13] at H
     have c13b0 : (a0_0.toList == ([] : List UInt8)) = true := beq_iff_eq.mpr c13
     have c13b1 : (a0_0.toList != ([] : List UInt8)) = false := bne_eq_false_iff_eq.mpr c13
     have c13b7 : a0_0.toList.isEmpty = true := by simpa using c13b0
     clear c13
     obtain rfl := Option.some.inj H
     have hnb14 := NB482_483.out
     have hnc14 := NB483_482.out
     obtain ⟨hcz15_0, hcz15_1, hfz15_0, hfz15_1⟩ := cz2 (W := wc) BK482
     go_wp2
     go_ret
     exact ⟨ez, bz⟩
    ·rw [if_neg c13] at H
     have c13b0 : (a0_0.toList == ([] : List UInt8)) = false := beq_eq_false_iff_ne.mpr c13
     have c13b1 : (a0_0.toList != ([] : List UInt8)) = true := bne_iff_ne.mpr c13
     have c13b7 : a0_0.toList.isEmpty = false := by simpa using c13b0
     by_cases c16 : a1_0.toList = ([] : List UInt8)
     ·rw [if_pos c16] at H
      have c16b0 : (a1_0.toList == ([] : List UInt8)) = true := beq_iff_eq.mpr c16
      have c16b1 : (a1_0.toList != ([] : List UInt8)) = false := bne_eq_false_iff_eq.mpr c16
      have c16b7 : a1_0.toList.isEmpty = true := by simpa using c16b0
      clear c16
      obtain rfl := Option.some.inj H
      have hnb17 := NB482_483.out
      have hnc17 := NB483_482.out
      obtain ⟨hcz18_0, hcz18_1, hfz18_0, hfz18_1⟩ := cz2 (W := wc) BK482
      obtain ⟨hcz19_0, hcz19_1, hfz19_0, hfz19_1⟩ := cz2 (W := wc) BK483
      go_wp2
      go_ret
      exact ⟨ez, bz⟩
     ·rw [if_neg c16] at H
      have c16b0 : (a1_0.toList == ([] : List UInt8)) = false := beq_eq_false_iff_ne.mpr c16
      have c16b1 : (a1_0.toList != ([] : List UInt8)) = true := bne_iff_ne.mpr c16
      have c16b7 : a1_0.toList.isEmpty = false := by simpa using c16b0
      replace H := bs H
      obtain ⟨t484, A20, H⟩ := H
      have HC21 := Aside0.mk H
      clear H
      have hnb22 := NB482_483.out
      have hnc22 := NB483_482.out
      obtain ⟨hcz23_0, hcz23_1, hfz23_0, hfz23_1⟩ := cz2 (W := wc) BK482
      obtain ⟨hcz24_0, hcz24_1, hfz24_0, hfz24_1⟩ := cz2 (W := wc) BK483
      try go_wp2
      replace BK482 := Aside0.mk (blk_drew BK482.out)
      replace BK483 := Aside0.mk (blk_drew BK483.out)
      replace HB := Aside0.mk (below_drew1 HB.out)
      refine start_ (n := 6) (S := fun w' => w'.cell? ⟨gb482, 0, none⟩ = some (.string a0_0) ∧ w'.cell? ⟨gb482, 1, none⟩ = some (.int .i64 a0_1)) (ds := []) #[false, false, false, false, false, false] (by kernel_rfl) rfl rfl ⟨(blk_cell BK482.out 0).trans rfl, (blk_cell BK482.out 1).trans rfl⟩ (fun hHeld => ?_)
      generalize wc.drew = w25 at BK482 BK483 HB hHeld ⊢
      refine pure_ (i := 0) (N := some 24) (v := ?_) (a' := ?_) #[true, false, false, false, false, false] rfl rfl (by kernel_rfl) (fun _ _ _ h => h) (Or.inl ⟨by rfl, ?_⟩) ?_ ?_
      rotate_left
      ·intro w'
       go_simp
       with_reducible rfl
      rotate_left
      ·simp only [Act.put, List.setIfInBounds_toArray, List.set_cons_zero, List.set_cons_succ, i64_w, i32_w]
       rfl
      refine take_ (i := 1) (N := some 25) (v := ?_) (a' := ?_) #[true, true, false, false, false, false] rfl rfl (by kernel_rfl) (fun _ _ _ h => h) (Or.inl ⟨by rfl, ?_⟩) hHeld ?_ ?_
      rotate_left
      ·rintro w' ⟨s0, s1⟩
       go_simp
       with_reducible rfl
      rotate_left
      ·simp only [Act.put, List.setIfInBounds_toArray, List.set_cons_zero, List.set_cons_succ, i64_w, i32_w]
       rfl
      refine take_ (i := 2) (N := some 26) (v := ?_) (a' := ?_) #[true, true, true, false, false, false] rfl rfl (by kernel_rfl) (fun _ _ _ h => h) (Or.inl ⟨by rfl, ?_⟩) hHeld ?_ ?_
      rotate_left
      ·rintro w' ⟨s0, s1⟩
       go_simp
       with_reducible rfl
      rotate_left
      ·simp only [Act.put, List.setIfInBounds_toArray, List.set_cons_zero, List.set_cons_succ, i64_w, i32_w]
       rfl
      refine one_ (i := 3) (N := some 27) #[true, true, true, true, false, false] rfl rfl (by kernel_rfl) (by decide) (fun K hK => ?_)
      refine goes_ Tryd.func57 (by kernel_rfl) rfl #[.agg #[.string a0_0, .int .i64 a0_1]] (by rfl) rfl rfl lz ?_
      with_reducible refine (platenref04_low.calls a0_0 a0_1 t484 _ A20.out).mono ?_
      rintro e w26 ⟨rfl, hb⟩
      refine ⟨_, rfl, ?_⟩
      replace BK482 := Aside0.mk (blk_below (g := gb482) (o := .cells #[.string a0_0, .int .i64 a0_1] 28 (0, 0)) bk hb)
      replace BK483 := Aside0.mk (blk_below (g := gb483) (o := .cells #[.string a1_0, .int .i64 a1_1] 28 (0, 0)) bk hb)
      replace HB := Aside0.mk (below_step bz hb)
      (try clear hb)
      (try clear hb2)
      (try clear hk)
      (try clear hi)
      refine hK.out _ _ ⟨(blk_cell BK482.out 0).trans rfl, (blk_cell BK482.out 1).trans rfl⟩ (fun hHeld => ?_)
      clear hK K
      refine norm_ (a' := ?_) ?_ ?_
      rotate_left
      ·show Act.put _ (some 27) _ = _
       simp only [Act.put, List.setIfInBounds_toArray, List.set_cons_zero, List.set_cons_succ, i64_w, i32_w]
       rfl
      refine pure_ (i := 4) (N := some 5) (v := ?_) (a' := ?_) #[true, true, true, true, true, false] rfl rfl (by kernel_rfl) (fun _ _ _ h => h) (Or.inl ⟨by rfl, ?_⟩) ?_ ?_
      rotate_left
      ·intro w'
       go_simp
       with_reducible rfl
      rotate_left
      ·simp only [Act.put, List.setIfInBounds_toArray, List.set_cons_zero, List.set_cons_succ, i64_w, i32_w]
       rfl
      refine pure_ (i := 5) (N := some 6) (v := ?_) (a' := ?_) #[true, true, true, true, true, true] rfl rfl (by kernel_rfl) (fun _ _ _ h => h) (Or.inl ⟨by rfl, ?_⟩) ?_ ?_
      rotate_left
      ·intro w'
       go_simp
       with_reducible rfl
      rotate_left
      ·simp only [Act.put, List.setIfInBounds_toArray, List.set_cons_zero, List.set_cons_succ, i64_w, i32_w]
       rfl
      refine done_ (by kernel_rfl) ?_
      obtain ⟨hcz27_0, hcz27_1, hfz27_0, hfz27_1⟩ := cz2 (W := w26) BK483
      go_upto_if 31 with (fail)
      go_cut [5] (fun v5 wc => ∃ (kq : Nat) (x5_20 : Int), v5 = .int .i64 x5_20 ∧ Aside0 (platenref04_Compare.j1 kq x5_20 t484 a0_0 a0_1 a1_0 a1_1 = some r) ∧ Aside0 (kq ≤ kj2) ∧ Aside0 (wc.heap[gb482]? = some (.cells #[.string a0_0, .int .i64 a0_1] 28 (0, 0))) ∧ Aside0 (wc.heap[gb483]? = some (.cells #[.string a1_0, .int .i64 a1_1] 28 (0, 0))) ∧ Aside0 (Below w.heap.size w wc))
      case first =>
       have H := HC21.out
       clear HC21
       by_cases c28 : a1_1 > a0_1
       ·rw [if_pos c28] at H
        have c28b0 : decide (a0_1 < a1_1) = true := decide_eq_true c28
        clear c28
        try rw [c28b0]
        have H' := Aside0.mk H
        clear H
        have hnb29 := NB483_482.out
        have hnc29 := NB482_483.out
        obtain ⟨hcz30_0, hcz30_1, hfz30_0, hfz30_1⟩ := cz2 (W := w26) BK483
        go_wp2
        go_meet
        case rel => exact ⟨_, (a1_1), rz, H', ⟨by have := HJ2.out; first | omega | exact Nat.le_refl _⟩, ⟨bk⟩, ⟨bk⟩, ⟨bz⟩⟩
       ·rw [if_neg c28] at H
        have c28b0 : decide (a0_1 < a1_1) = false := decide_eq_false c28
        clear c28
        try rw [c28b0]
        have H' := Aside0.mk H
        clear H
        go_wp2
        go_meet
        case rel => exact ⟨_, (a0_1), rz, H', ⟨by have := HJ2.out; first | omega | exact Nat.le_refl _⟩, ⟨bk⟩, ⟨bk⟩, ⟨bz⟩⟩
      case rest =>
       clear HC21
       try clear c6
       try clear c6b0
       try clear c6b1
       try clear c12
       try clear c13
       try clear c13b0
       try clear c13b1
       try clear c16
       try clear c16b0
       try clear c16b1
       try clear c28
       try clear c28b0
       try clear hcz11_0 hcz11_1 hfz11_0 hfz11_1
       try clear hcz15_0 hcz15_1 hfz15_0 hfz15_1
       try clear hcz18_0 hcz18_1 hfz18_0 hfz18_1
       try clear hcz19_0 hcz19_1 hfz19_0 hfz19_1
       try clear hcz23_0 hcz23_1 hfz23_0 hfz23_1
       try clear hcz24_0 hcz24_1 hfz24_0 hfz24_1
       try clear hcz27_0 hcz27_1 hfz27_0 hfz27_1
       try clear hcz30_0 hcz30_1 hfz30_0 hfz30_1
       try clear hcz8_0 hcz8_1 hfz8_0 hfz8_1
       try clear hcz9_0 hcz9_1 hfz9_0 hfz9_1
       obtain ⟨kq, x5_20, rfl, HA, HJ20, BK482, BK483, HB⟩ := hcut
       cases kq with
       | zero => exact absurd HA.out (by simp [platenref04_Compare.j1])
       | succ kj20 =>
        have H := HA.out
        clear HA
        simp only [platenref04_Compare.j1] at H
        replace H := bs H
        obtain ⟨t485, A31, H⟩ := H
        have HC32 := Aside0.mk H
        clear H
        have hnb33 := NB483_482.out
        have hnc33 := NB482_483.out
        obtain ⟨hcz34_0, hcz34_1, hfz34_0, hfz34_1⟩ := cz2 (W := wc) BK483
        go_upto_if 37 with (first | ((with_reducible refine gate_callee (f := 57) rfl ?_); refine goesL_ (some 35) rfl rfl Tryd.func57 (by kernel_rfl) rfl #[.agg #[.string a1_0, .int .i64 a1_1]] rfl lz ?_; (with_reducible refine (platenref04_low.calls a1_0 a1_1 t485 _ A31.out).mono ?_); rintro e w35 ⟨rfl, hb⟩; refine ⟨_, rfl, ?_⟩; replace BK482 := kN (g := gb482) (cs := #[.string a0_0, .int .i64 a0_1]) hb bk; replace BK483 := kN (g := gb483) (cs := #[.string a1_0, .int .i64 a1_1]) hb bk; replace HB := bN bz hb; (try clear hb); (try clear hb2); (try clear hk); (try clear hi)))
        (try simp only [Act.put, List.setIfInBounds_toArray, List.set_cons_zero, List.set_cons_succ])
        go_cut [6] (fun v6 wc => ∃ (kq : Nat) (x6_31 : Int), v6 = .int .i64 x6_31 ∧ Aside0 (platenref04_Compare.j2 kq x5_20 x6_31 a0_0 a0_1 a1_0 a1_1 = some r) ∧ Aside0 (kq ≤ kj20) ∧ Aside0 (wc.heap[gb482]? = some (.cells #[.string a0_0, .int .i64 a0_1] 28 (0, 0))) ∧ Aside0 (wc.heap[gb483]? = some (.cells #[.string a1_0, .int .i64 a1_1] 28 (0, 0))) ∧ Aside0 (Below w.heap.size w wc))
        case first =>
         have H := HC32.out
         clear HC32
         by_cases c36 : t485 < t484
         ·rw [if_pos c36] at H
          have c36b0 := decide_eq_true c36
          clear c36
          try rw [c36b0]
          replace H := bs H
          obtain ⟨t486, A37, H⟩ := H
          have H' := Aside0.mk H
          clear H
          have hnb38 := NB483_482.out
          have hnc38 := NB482_483.out
          obtain ⟨hcz39_0, hcz39_1, hfz39_0, hfz39_1⟩ := cz2 (W := w35) BK483
          go_wp2_with (first | ((with_reducible refine gate_callee (f := 57) rfl ?_); refine goesL_ (some 39) rfl rfl Tryd.func57 (by kernel_rfl) rfl #[.agg #[.string a1_0, .int .i64 a1_1]] rfl lz ?_; (with_reducible refine (platenref04_low.calls a1_0 a1_1 t486 _ A37.out).mono ?_); rintro e w40 ⟨rfl, hb⟩; refine ⟨_, rfl, ?_⟩; replace BK482 := kN (g := gb482) (cs := #[.string a0_0, .int .i64 a0_1]) hb bk; replace BK483 := kN (g := gb483) (cs := #[.string a1_0, .int .i64 a1_1]) hb bk; replace HB := bN bz hb; (try clear hb); (try clear hb2); (try clear hk); (try clear hi)))
          go_meet
          case rel => exact ⟨_, (t486), rz, H', ⟨by have := HJ2.out; have := HJ20.out; first | omega | exact Nat.le_refl _⟩, ⟨bk⟩, ⟨bk⟩, ⟨bz⟩⟩
         ·rw [if_neg c36] at H
          have c36b0 := decide_eq_false c36
          clear c36
          try rw [c36b0]
          have H' := Aside0.mk H
          clear H
          go_wp2
          go_meet
          case rel => exact ⟨_, (t484), rz, H', ⟨by have := HJ2.out; have := HJ20.out; first | omega | exact Nat.le_refl _⟩, ⟨bk⟩, ⟨bk⟩, ⟨bz⟩⟩
        case rest =>
         clear HC32
         try clear c6
         try clear c6b0
         try clear c6b1
         try clear c12
         try clear c13
         try clear c13b0
         try clear c13b1
         try clear c16
         try clear c16b0
         try clear c16b1
         try clear c28
         try clear c28b0
         try clear c36
         try clear c36b0
         try clear hcz11_0 hcz11_1 hfz11_0 hfz11_1
         try clear hcz15_0 hcz15_1 hfz15_0 hfz15_1
         try clear hcz18_0 hcz18_1 hfz18_0 hfz18_1
         try clear hcz19_0 hcz19_1 hfz19_0 hfz19_1
         try clear hcz23_0 hcz23_1 hfz23_0 hfz23_1
         try clear hcz24_0 hcz24_1 hfz24_0 hfz24_1
         try clear hcz27_0 hcz27_1 hfz27_0 hfz27_1
         try clear hcz30_0 hcz30_1 hfz30_0 hfz30_1
         try clear hcz34_0 hcz34_1 hfz34_0 hfz34_1
         try clear hcz39_0 hcz39_1 hfz39_0 hfz39_1
         try clear hcz8_0 hcz8_1 hfz8_0 hfz8_1
         try clear hcz9_0 hcz9_1 hfz9_0 hfz9_1
         obtain ⟨kq, x6_31, rfl, HA, HJ31, BK482, BK483, HB⟩ := hcut
         cases kq with
         | zero => exact absurd HA.out (by simp [platenref04_Compare.j2])
         | succ kj31 =>
          have H := HA.out
          clear HA
          simp only [platenref04_Compare.j2] at H
          have H' := Aside0.mk H
          clear H
          go_wp2
          go_loopg [7] kj31 (fun kq v7 w' => ∃ (x7_4 : Int), v7 = .int .i64 x7_4 ∧ Aside0 (platenref04_Compare.l0 kq x6_31 x7_4 a0_0 a0_1 a1_0 a1_1 = some r) ∧ Aside0 (kq ≤ kj31) ∧ Aside0 (w'.heap[gb482]? = some (.cells #[.string a0_0, .int .i64 a0_1] 28 (0, 0))) ∧ Aside0 (w'.heap[gb483]? = some (.cells #[.string a1_0, .int .i64 a1_1] 28 (0, 0))) ∧ Aside0 (Below w.heap.size w w'))
          case atStart => exact ⟨(x5_20), rz, H', ⟨Nat.le_refl _⟩, ⟨bk⟩, ⟨bk⟩, ⟨bz⟩⟩
          case round =>
           clear H'
           try clear c6
           try clear c6b0
           try clear c6b1
           try clear c12
           try clear c13
           try clear c13b0
           try clear c13b1
           try clear c16
           try clear c16b0
           try clear c16b1
           try clear c28
           try clear c28b0
           try clear c36
           try clear c36b0
           try clear hcz11_0 hcz11_1 hfz11_0 hfz11_1
           try clear hcz15_0 hcz15_1 hfz15_0 hfz15_1
           try clear hcz18_0 hcz18_1 hfz18_0 hfz18_1
           try clear hcz19_0 hcz19_1 hfz19_0 hfz19_1
           try clear hcz23_0 hcz23_1 hfz23_0 hfz23_1
           try clear hcz24_0 hcz24_1 hfz24_0 hfz24_1
           try clear hcz27_0 hcz27_1 hfz27_0 hfz27_1
           try clear hcz30_0 hcz30_1 hfz30_0 hfz30_1
           try clear hcz34_0 hcz34_1 hfz34_0 hfz34_1
           try clear hcz39_0 hcz39_1 hfz39_0 hfz39_1
           try clear hcz8_0 hcz8_1 hfz8_0 hfz8_1
           try clear hcz9_0 hcz9_1 hfz9_0 hfz9_1
           obtain ⟨x7_4, rfl, HA, HK4, BK482, BK483, HB⟩ := hrel
           cases gk with
           | zero => exact absurd HA.out (by simp [platenref04_Compare.l0])
           | succ k4 =>
            have H := HA.out
            clear HA
            simp only [platenref04_Compare.l0] at H
            by_cases c41 : x7_4 ≥ x6_31
            ·rw [if_pos c41] at H
             have c41b0 : decide (x6_31 ≤ x7_4) = true := decide_eq_true c41
             clear c41
             replace H := bs H
             obtain ⟨t487, A42, H⟩ := H
             replace H := bs H
             obtain ⟨t488, A43, H⟩ := H
             try go_wp2
             replace BK482 := Aside0.mk (blk_drew BK482.out)
             replace BK483 := Aside0.mk (blk_drew BK483.out)
             replace HB := Aside0.mk (below_drew1 HB.out)
             refine start_ (n := 8) (S := fun w' => w'.cell? ⟨gb482, 0, none⟩ = some (.string a0_0) ∧ w'.cell? ⟨gb482, 1, none⟩ = some (.int .i64 a0_1) ∧ w'.cell? ⟨gb483, 0, none⟩ = some (.string a1_0) ∧ w'.cell? ⟨gb483, 1, none⟩ = some (.int .i64 a1_1)) (ds := []) #[false, false, false, false, false, false, false, false] (by kernel_rfl) rfl rfl ⟨(blk_cell BK482.out 0).trans rfl, (blk_cell BK482.out 1).trans rfl, (blk_cell BK483.out 0).trans rfl, (blk_cell BK483.out 1).trans rfl⟩ (fun hHeld => ?_); refine with_tabW platenref04_Compare.tab15 platenref04_Compare.bits15 (fun HT_ HW_ => ?_)
             generalize wr.drew = w44 at BK482 BK483 HB hHeld ⊢
             refine pure_ (i := 1) (N := some 47) (v := ?_) (a' := ?_) #[false, true, false, false, false, false, false, false] rfl rfl (any_of HT_.out (by kernel_rfl)) (fun _ _ _ h => h) (Or.inl ⟨by rfl, ?_⟩) ?_ ?_
             rotate_left
             ·intro w'
              go_simp
              with_reducible rfl
             rotate_left
             ·simp only [Act.put, List.setIfInBounds_toArray, List.set_cons_zero, List.set_cons_succ, i64_w, i32_w]
              rfl
             refine pure_ (i := 4) (N := some 50) (v := ?_) (a' := ?_) #[false, true, false, false, true, false, false, false] rfl rfl (any_of HT_.out (by kernel_rfl)) (fun _ _ _ h => h) (Or.inl ⟨by rfl, ?_⟩) ?_ ?_
             rotate_left
             ·intro w'
              go_simp
              with_reducible rfl
             rotate_left
             ·simp only [Act.put, List.setIfInBounds_toArray, List.set_cons_zero, List.set_cons_succ, i64_w, i32_w]
              rfl
             refine take_ (i := 0) (N := some 46) (v := ?_) (a' := ?_) #[true, true, false, false, true, false, false, false] rfl rfl (take_ofW HT_.out HW_.out (by kernel_rfl)) (fun _ _ _ h => h) (Or.inl ⟨by rfl, ?_⟩) hHeld ?_ ?_
             rotate_left
             ·rintro w' ⟨s0, s1, s2, s3⟩
              go_simp
              with_reducible rfl
             rotate_left
             ·simp only [Act.put, List.setIfInBounds_toArray, List.set_cons_zero, List.set_cons_succ, i64_w, i32_w]
              rfl
             refine take_ (i := 3) (N := some 49) (v := ?_) (a' := ?_) #[true, true, false, true, true, false, false, false] rfl rfl (take_ofW HT_.out HW_.out (by kernel_rfl)) (fun _ _ _ h => h) (Or.inl ⟨by rfl, ?_⟩) hHeld ?_ ?_
             rotate_left
             ·rintro w' ⟨s0, s1, s2, s3⟩
              go_simp
              with_reducible rfl
             rotate_left
             ·simp only [Act.put, List.setIfInBounds_toArray, List.set_cons_zero, List.set_cons_succ, i64_w, i32_w]
              rfl
             refine one_ (i := 2) (N := some 48) #[true, true, true, true, true, false, false, false] rfl rfl (one_of HT_.out (by kernel_rfl)) (by decide) (fun K hK => ?_)
             refine goes_ Tryd.func58 (by kernel_rfl) rfl #[.agg #[.string a0_0, .int .i64 a0_1], .int .i64 x7_4] (by rfl) rfl rfl lz ?_
             with_reducible refine (platenref04_digit.calls a0_0 a0_1 x7_4 t487 _ A42.out).mono ?_
             rintro e w45 ⟨rfl, hb⟩
             refine ⟨_, rfl, ?_⟩
             replace BK482 := Aside0.mk (blk_below (g := gb482) (o := .cells #[.string a0_0, .int .i64 a0_1] 28 (0, 0)) bk hb)
             replace BK483 := Aside0.mk (blk_below (g := gb483) (o := .cells #[.string a1_0, .int .i64 a1_1] 28 (0, 0)) bk hb)
             replace HB := Aside0.mk (below_step bz hb)
             (try clear hb)
             (try clear hb2)
             (try clear hk)
             (try clear hi)
             refine hK.out _ _ ⟨(blk_cell BK482.out 0).trans rfl, (blk_cell BK482.out 1).trans rfl, (blk_cell BK483.out 0).trans rfl, (blk_cell BK483.out 1).trans rfl⟩ (fun hHeld => ?_)
             clear hK K
             refine norm_ (a' := ?_) ?_ ?_
             rotate_left
             ·show Act.put _ (some 48) _ = _
              simp only [Act.put, List.setIfInBounds_toArray, List.set_cons_zero, List.set_cons_succ, i64_w, i32_w]
              rfl
             refine one_ (i := 5) (N := some 51) #[true, true, true, true, true, true, false, false] rfl rfl (one_of HT_.out (by kernel_rfl)) (by decide) (fun K hK => ?_)
             refine goes_ Tryd.func58 (by kernel_rfl) rfl #[.agg #[.string a1_0, .int .i64 a1_1], .int .i64 x7_4] (by rfl) rfl rfl lz ?_
             with_reducible refine (platenref04_digit.calls a1_0 a1_1 x7_4 t488 _ A43.out).mono ?_
             rintro e w46 ⟨rfl, hb⟩
             refine ⟨_, rfl, ?_⟩
             replace BK482 := Aside0.mk (blk_below (g := gb482) (o := .cells #[.string a0_0, .int .i64 a0_1] 28 (0, 0)) bk hb)
             replace BK483 := Aside0.mk (blk_below (g := gb483) (o := .cells #[.string a1_0, .int .i64 a1_1] 28 (0, 0)) bk hb)
             replace HB := Aside0.mk (below_step bz hb)
             (try clear hb)
             (try clear hb2)
             (try clear hk)
             (try clear hi)
             refine hK.out _ _ ⟨(blk_cell BK482.out 0).trans rfl, (blk_cell BK482.out 1).trans rfl, (blk_cell BK483.out 0).trans rfl, (blk_cell BK483.out 1).trans rfl⟩ (fun hHeld => ?_)
             clear hK K
             refine norm_ (a' := ?_) ?_ ?_
             rotate_left
             ·show Act.put _ (some 51) _ = _
              simp only [Act.put, List.setIfInBounds_toArray, List.set_cons_zero, List.set_cons_succ, i64_w, i32_w]
              rfl
             refine pure_ (i := 6) (N := some 8) (v := ?_) (a' := ?_) #[true, true, true, true, true, true, true, false] rfl rfl (any_of HT_.out (by kernel_rfl)) (fun _ _ _ h => h) (Or.inl ⟨by rfl, ?_⟩) ?_ ?_
             rotate_left
             ·intro w'
              go_simp
              with_reducible rfl
             rotate_left
             ·simp only [Act.put, List.setIfInBounds_toArray, List.set_cons_zero, List.set_cons_succ, i64_w, i32_w]
              rfl
             refine pure_ (i := 7) (N := some 9) (v := ?_) (a' := ?_) #[true, true, true, true, true, true, true, true] rfl rfl (any_of HT_.out (by kernel_rfl)) (fun _ _ _ h => h) (Or.inl ⟨by rfl, ?_⟩) ?_ ?_
             rotate_left
             ·intro w'
              go_simp
              with_reducible rfl
             rotate_left
             ·simp only [Act.put, List.setIfInBounds_toArray, List.set_cons_zero, List.set_cons_succ, i64_w, i32_w]
              rfl
             refine done_ (done_of HT_.out (by kernel_rfl)) ?_
             go_upto_if 54 with (fail)
             by_cases c47 : t487 < t488
             ·rw [if_pos c47] at H
              have c47b0 := decide_eq_true c47
              clear c47
              try rw [c47b0]
              obtain rfl := Option.some.inj H
              go_wp2
              go_ret
              exact ⟨ez, bz⟩
             ·rw [if_neg c47] at H
              have c47b0 := decide_eq_false c47
              clear c47
              try rw [c47b0]
              by_cases c48 : t487 > t488
              ·rw [if_pos c48] at H
               have c48b0 : decide (t488 < t487) = true := decide_eq_true c48
               clear c48
               obtain rfl := Option.some.inj H
               go_wp2
               go_ret
               exact ⟨ez, bz⟩
              ·rw [if_neg c48] at H
               have c48b0 : decide (t488 < t487) = false := decide_eq_false c48
               clear c48
               have H' := Aside0.mk H
               clear H
               go_wp2
               go_roundg k4
               case measure => have := HJ2.out; have := HJ20.out; have := HJ31.out; have := HK4.out; omega
               case rel => exact ⟨(wrap64 (x7_4 - 1)), rz, H', ⟨by have := HJ2.out; have := HJ20.out; have := HJ31.out; have := HK4.out; omega⟩, ⟨bk⟩, ⟨bk⟩, ⟨bz⟩⟩
            ·rw [if_neg c41] at H
             have c41b0 : decide (x6_31 ≤ x7_4) = false := decide_eq_false c41
             clear c41
             obtain rfl := Option.some.inj H
             go_wp2
             go_ret
             exact ⟨ez, bz⟩
end Go.Proofs.YtmeapdchnnpceaaDoor.Fn
end
section
namespace Go.Proofs.YtmeapdchnnpceaaDoor.Fn
open Go.RowKit Go.Proofs.YtmeapdchnnpceaaDoorW.PrintWords Go.Proofs.YtmeapdchnnpceaaDoorW.PrintLast Go.Proofs.YtmeapdchnnpceaaDoorW.PrintMore
attribute [local go_sem] min2_int min_two
set_option linter.unusedVariables false
set_option linter.unusedSimpArgs false
def bigdec_Cmp.f (k : Nat) (a0_0 : ByteArray) (a0_1 : Int) (a1_0 : ByteArray) (a1_1 : Int) : Option (Int × Int) := (bigdec_two.f k a0_0 a0_1 a1_0 a1_1).bind fun bt130 => (if bt130.2.2.2.2 = 0 then ((bigdec_cmp.f k bt130.1 bt130.2.1 bt130.2.2.1 bt130.2.2.2.1).bind fun t135 => (some (t135, 0))) else (some (0, bt130.2.2.2.2)))
set_option maxHeartbeats 8000000 in
set_option maxRecDepth 100000 in
theorem bigdec_Cmp.calls (k : Nat) (a0_0 : ByteArray) (a0_1 : Int) (a1_0 : ByteArray) (a1_1 : Int) (r1 : Int) (r2 : Int) (w : World) (h : bigdec_Cmp.f k a0_0 a0_1 a1_0 a1_1 = some (r1, r2)) :
  Calls Tryd.prog 26 #[.agg #[.string a0_0, .int .i64 a0_1], .agg #[.string a1_0, .int .i64 a1_1]] w fun e w' => e = .returned (.tuple #[.int .i64 r1, .int .i64 r2]) ∧ Below w.heap.size w w' := by
 have hu28 := Tryd.underlying28
 have HB := Aside0.mk (Below.refl w.heap.size w)
 have H : ((bigdec_two.f k a0_0 a0_1 a1_0 a1_1).bind fun bt130 => (if bt130.2.2.2.2 = 0 then ((bigdec_cmp.f k bt130.1 bt130.2.1 bt130.2.2.1 bt130.2.2.2.1).bind fun t135 => (some (t135, 0))) else (some (0, bt130.2.2.2.2)))) = some (r1, r2) := h
 clear h
 replace H := bs H
 obtain ⟨⟨t130, t131, t132, t133, t134⟩, A3, H⟩ := H
 dsimp only at H
 go_enter Tryd.func26, Tryd.ntmps26
 go_upto_if 15 with (first | ((with_reducible refine gate_dst (N := 2) rfl ?_); refine box_event rfl (N := 2) rfl (cs := #[.string a0_0, .int .i64 a0_1]) (t := 28) gz ?_; intro gb128 hg w4 hbox hb; have GE128 := gN bz hg; have BK128 := Aside0.mk hbox; replace HB := bN bz hb; clear hb hbox hg) | ((with_reducible refine gate_dst (N := 3) rfl ?_); refine box_event rfl (N := 3) rfl (cs := #[.string a1_0, .int .i64 a1_1]) (t := 28) gz ?_; intro gb129 hg w5 hbox hb; have GE129 := gN bz hg; have NB128_129 := lN (g := gb128) (cs := #[.string a0_0, .int .i64 a0_1]) hg bk; have NB129_128 := rN (g := gb128) (cs := #[.string a0_0, .int .i64 a0_1]) hg bk; replace BK128 := kN (g := gb128) (cs := #[.string a0_0, .int .i64 a0_1]) hb bk; have BK129 := Aside0.mk hbox; replace HB := bN bz hb; clear hb hbox hg; have hnb6 := NB128_129.out; have hnc6 := NB129_128.out; obtain ⟨hcz7_0, hcz7_1, hfz7_0, hfz7_1⟩ := cz2 (W := w5) BK128; obtain ⟨hcz8_0, hcz8_1, hfz8_0, hfz8_1⟩ := cz2 (W := w5) BK129) | ((with_reducible refine gate_callee (f := 49) rfl ?_); refine goesL_ (some 10) rfl rfl Tryd.func49 (by kernel_rfl) rfl #[.agg #[.string a0_0, .int .i64 a0_1], .agg #[.string a1_0, .int .i64 a1_1]] rfl lz ?_; (with_reducible refine (bigdec_two.calls k a0_0 a0_1 a1_0 a1_1 t130 t131 t132 t133 t134 _ A3.out).mono ?_); rintro e w9 ⟨rfl, hb⟩; refine ⟨_, rfl, ?_⟩; replace BK128 := kN (g := gb128) (cs := #[.string a0_0, .int .i64 a0_1]) hb bk; replace BK129 := kN (g := gb129) (cs := #[.string a1_0, .int .i64 a1_1]) hb bk; replace HB := bN bz hb; (try clear hb); (try clear hb2); (try clear hk); (try clear hi); obtain ⟨hcz10_0, hcz10_1, hfz10_0, hfz10_1⟩ := cz2 (W := w9) BK128; obtain ⟨hcz11_0, hcz11_1, hfz11_0, hfz11_1⟩ := cz2 (W := w9) BK129))
 (try simp only [Act.put, List.setIfInBounds_toArray, List.set_cons_zero, List.set_cons_succ])
 by_cases c12 : t134 = 0
 ·rw [if_pos c12] at H
  obtain ⟨c12b0, c12b1⟩ := eT c12
  clear c12
  try first | rw [c12b0] | rw [c12b1]
  replace H := bs H
  obtain ⟨t135, A13, H⟩ := H
  simp only [Option.some.injEq, Prod.mk.injEq] at H
  obtain ⟨rfl, rfl⟩ := H
  have hnb14 := NB128_129.out
  have hnc14 := NB129_128.out
  obtain ⟨hcz15_0, hcz15_1, hfz15_0, hfz15_1⟩ := cz2 (W := w9) BK128
  obtain ⟨hcz16_0, hcz16_1, hfz16_0, hfz16_1⟩ := cz2 (W := w9) BK129
  go_wp2_with (first | ((with_reducible refine gate_callee (f := 50) rfl ?_); refine goesL_ (some 19) rfl rfl Tryd.func50 (by kernel_rfl) rfl #[.agg #[.string t130, .int .i64 t131], .agg #[.string t132, .int .i64 t133]] rfl lz ?_; (with_reducible refine (bigdec_cmp.calls k t130 t131 t132 t133 t135 _ A13.out).mono ?_); rintro e w17 ⟨rfl, hb⟩; refine ⟨_, rfl, ?_⟩; replace BK128 := kN (g := gb128) (cs := #[.string t130, .int .i64 t131]) hb bk; replace BK129 := kN (g := gb129) (cs := #[.string t132, .int .i64 t133]) hb bk; replace HB := bN bz hb; (try clear hb); (try clear hb2); (try clear hk); (try clear hi)))
  go_ret2
  exact ⟨ez, bz⟩
 ·rw [if_neg c12] at H
  obtain ⟨c12b0, c12b1⟩ := eF c12
  try first | rw [c12b0] | rw [c12b1]
  simp only [Option.some.injEq, Prod.mk.injEq] at H
  obtain ⟨rfl, rfl⟩ := H
  go_wp2
  go_ret2
  exact ⟨ez, bz⟩
end Go.Proofs.YtmeapdchnnpceaaDoor.Fn
end
section
namespace Go.Proofs.YtmeapdchnnpceaaDoor.Pure
open Go.RowKit Go.Proofs.YtmeapdchnnpceaaDoorW.PrintWords Go.Proofs.YtmeapdchnnpceaaDoor.Fn
set_option linter.unusedVariables false
set_option linter.unusedSimpArgs false
def sv (l : List UInt8) (p E : Int) : Nat := val l * 10 ^ (p - l.length - E).toNat
def cmpN (a b : Nat) : Int := if a < b then -1 else if b < a then 1 else 0
theorem cmpN_mul (a b k : Nat) (hk : 0 < k) : cmpN (a * k) (b * k) = cmpN a b := by
  unfold cmpN
  by_cases h1 : a < b
  · rw [if_pos h1, if_pos (Nat.mul_lt_mul_of_pos_right h1 hk)]
  · rw [if_neg h1, if_neg (fun h => h1 (Nat.lt_of_mul_lt_mul_right h))]
    by_cases h2 : b < a
    · rw [if_pos h2, if_pos (Nat.mul_lt_mul_of_pos_right h2 hk)]
    · rw [if_neg h2, if_neg (fun h => h2 (Nat.lt_of_mul_lt_mul_right h))]
theorem cmpN_add (x a b : Nat) : cmpN (x + a) (x + b) = cmpN a b := by
  have e1 : x + a < x + b ↔ a < b := by omega
  have e2 : x + b < x + a ↔ b < a := by omega
  unfold cmpN
  simp only [e1, e2]
theorem cmpN_lt {a b : Nat} (h : a < b) : cmpN a b = -1 := if_pos h
theorem cmpN_gt {a b : Nat} (h : b < a) : cmpN a b = 1 := by unfold cmpN; rw [if_neg (by omega), if_pos h]
theorem cmpN_self (a : Nat) : cmpN a a = 0 := by unfold cmpN; rw [if_neg (by omega), if_neg (by omega)]
theorem sv_lower (l : List UInt8) (p E : Int) (h : E ≤ p - l.length) (k : Nat) : sv l p (E - k) = sv l p E * 10 ^ k := by
  unfold sv
  have : (p - l.length - (E - k)).toNat = (p - l.length - E).toNat + k := by omega
  rw [this, Nat.pow_add, Nat.mul_assoc]
theorem decOf_sv {l : List UInt8} {p : Int} (h : InForm l p) {E : Int} (hE : E ≤ p - l.length) : decOf (sv l p E) E = (l, p) := by
  have h1 := decOf_scale (val l) (p - l.length - E).toNat (p - l.length)
  have h2 : (p - (l.length : Int)) - ((p - l.length - E).toNat : Int) = E := by omega
  rw [h2, decOf_val h] at h1
  exact h1
def cmpD (a : List UInt8) (p : Int) (b : List UInt8) (q : Int) : Int := cmpN (sv a p (min (p - a.length) (q - b.length))) (sv b q (min (p - a.length) (q - b.length)))
theorem cmpD_at {a b : List UInt8} {p q E : Int} (h1 : E ≤ p - a.length) (h2 : E ≤ q - b.length) : cmpD a p b q = cmpN (sv a p E) (sv b q E) := by
  unfold cmpD
  obtain ⟨k, hk⟩ : ∃ k : Nat, E = min (p - (a.length : Int)) (q - b.length) - k := ⟨(min (p - (a.length : Int)) (q - b.length) - E).toNat, by omega⟩
  rw [hk, sv_lower a p _ (by omega), sv_lower b q _ (by omega), cmpN_mul _ _ _ (Nat.pow_pos (by omega))]
theorem sv_lt {l : List UInt8} (h : AllD l) {p E : Int} (hE : E ≤ p - l.length) : sv l p E < 10 ^ (p - E).toNat := by
  unfold sv
  have h1 := val_lt h
  have h2 : (p - E).toNat = l.length + (p - l.length - E).toNat := by omega
  rw [h2, Nat.pow_add]
  exact Nat.mul_lt_mul_of_pos_right h1 (Nat.pow_pos (by omega))
theorem val_ge {l : List UInt8} (h : AllD l) (h0 : Head0 l) (hn : l ≠ []) : 10 ^ (l.length - 1) ≤ val l := by
  cases l with
  | nil => exact absurd rfl hn
  | cons c t =>
    rw [val_cons, List.length_cons]
    have h1 := h.cons.1
    have h2 := h0 c t rfl
    have : 1 * 10 ^ t.length ≤ dig c * 10 ^ t.length := Nat.mul_le_mul_right _ (by unfold dig; omega)
    simp only [Nat.add_sub_cancel]
    omega
theorem sv_ge {l : List UInt8} (h : AllD l) (h0 : Head0 l) (hn : l ≠ []) {p E : Int} (hE : E ≤ p - l.length) : 10 ^ (p - 1 - E).toNat ≤ sv l p E := by
  unfold sv
  have h1 := val_ge h h0 hn
  have hl : 0 < l.length := List.length_pos_iff.2 hn
  have h2 : (p - 1 - E).toNat = (l.length - 1) + (p - l.length - E).toNat := by omega
  rw [h2, Nat.pow_add]
  exact Nat.mul_le_mul_right _ h1
theorem last_ne {l : List UInt8} (h : AllD l) (hr : rz l = l) (hn : l ≠ []) : val l ≠ 0 := by
  rcases List.eq_nil_or_concat l with rfl | ⟨t, c, rfl⟩
  · exact absurd rfl hn
  · rw [List.concat_eq_append] at *
    have hc : c.toNat ≠ 48 := by
      intro e
      rw [rz_snoc_eq e] at hr
      have := length_rz t
      rw [hr] at this
      simp at this
      omega
    rw [val_snoc]
    have := h.last
    unfold dig
    omega
theorem rz_tail {c : UInt8} {t : List UInt8} (h : rz (c :: t) = c :: t) : rz t = t := by
  rcases List.eq_nil_or_concat t with rfl | ⟨u, d, rfl⟩
  · rfl
  · rw [List.concat_eq_append] at *
    by_cases e : d.toNat = 48
    · rw [← List.cons_append, rz_snoc_eq e] at h
      have := length_rz (c :: u)
      rw [h] at this
      simp at this
      omega
    · exact rz_snoc_ne e
theorem lex_val : ∀ (a b : List UInt8) (K : Nat), AllD a → AllD b → rz a = a → rz b = b → a.length ≤ K → b.length ≤ K → Lib.compareBytes a b = cmpN (val a * 10 ^ (K - a.length)) (val b * 10 ^ (K - b.length))
  | [], [], K, _, _, _, _, _, _ => by simp [Lib.compareBytes, val_nil, cmpN]
  | [], d :: u, K, _, hb, _, hrb, _, _ => by
    rw [val_nil, Nat.zero_mul, cmpN_lt (Nat.mul_pos (Nat.pos_of_ne_zero (last_ne hb hrb (by simp))) (Nat.pow_pos (by omega)))]
    rfl
  | c :: t, [], K, ha, _, hra, _, _, _ => by
    rw [val_nil, Nat.zero_mul, cmpN_gt (Nat.mul_pos (Nat.pos_of_ne_zero (last_ne ha hra (by simp))) (Nat.pow_pos (by omega)))]
    rfl
  | c :: t, d :: u, K, ha, hb, hra, hrb, hka, hkb => by
    simp only [List.length_cons] at hka hkb
    have hc := ha.cons.1
    have hd := hb.cons.1
    have h1 := val_lt ha.cons.2
    have h2 := val_lt hb.cons.2
    have ea : val (c :: t) * 10 ^ (K - (t.length + 1)) = dig c * 10 ^ (K - 1) + val t * 10 ^ (K - 1 - t.length) := by
      rw [val_cons, Nat.add_mul, Nat.mul_assoc, ← Nat.pow_add]
      have e1 : t.length + (K - (t.length + 1)) = K - 1 := by omega
      have e2 : K - (t.length + 1) = K - 1 - t.length := by omega
      rw [e1, e2]
    have eb : val (d :: u) * 10 ^ (K - (u.length + 1)) = dig d * 10 ^ (K - 1) + val u * 10 ^ (K - 1 - u.length) := by
      rw [val_cons, Nat.add_mul, Nat.mul_assoc, ← Nat.pow_add]
      have e1 : u.length + (K - (u.length + 1)) = K - 1 := by omega
      have e2 : K - (u.length + 1) = K - 1 - u.length := by omega
      rw [e1, e2]
    have la : val t * 10 ^ (K - 1 - t.length) < 10 ^ (K - 1) := by
      have : 10 ^ t.length * 10 ^ (K - 1 - t.length) = 10 ^ (K - 1) := by rw [← Nat.pow_add]; congr 1; omega
      rw [← this]
      exact Nat.mul_lt_mul_of_pos_right h1 (Nat.pow_pos (by omega))
    have lb : val u * 10 ^ (K - 1 - u.length) < 10 ^ (K - 1) := by
      have : 10 ^ u.length * 10 ^ (K - 1 - u.length) = 10 ^ (K - 1) := by rw [← Nat.pow_add]; congr 1; omega
      rw [← this]
      exact Nat.mul_lt_mul_of_pos_right h2 (Nat.pow_pos (by omega))
    have less : ∀ x y r s M : Nat, x < y → r < M → x * M + r < y * M + s := by
      intro x y r s M hxy hr
      have : (x + 1) * M ≤ y * M := Nat.mul_le_mul_right _ hxy
      rw [Nat.add_mul] at this
      omega
    rw [List.length_cons, List.length_cons, ea, eb]
    unfold Lib.compareBytes
    have hlt : ∀ x y : UInt8, (48 ≤ x.toNat ∧ x.toNat ≤ 57) → (48 ≤ y.toNat ∧ y.toNat ≤ 57) → (x < y ↔ dig x < dig y) := by
      intro x y hx hy
      rw [UInt8.lt_iff_toNat_lt]
      unfold dig
      omega
    by_cases e1 : c < d
    · rw [if_pos e1, cmpN_lt (less _ _ _ _ _ ((hlt c d hc hd).1 e1) la)]
    · rw [if_neg e1]
      by_cases e2 : d < c
      · rw [if_pos e2, cmpN_gt (less _ _ _ _ _ ((hlt d c hd hc).1 e2) lb)]
      · rw [if_neg e2]
        have e3 : dig c = dig d := by
          have h3 := mt (hlt c d hc hd).2 e1
          have h4 := mt (hlt d c hd hc).2 e2
          omega
        rw [lex_val t u (K - 1) ha.cons.2 hb.cons.2 (rz_tail hra) (rz_tail hrb) (by omega) (by omega), e3, cmpN_add]
theorem cmp_eq {a b : List UInt8} {p q : Int} (ha : InForm a p) (hb : InForm b q) : Ev (fun k => bigdec_cmp.f k (S a) p (S b) q) (cmpD a p b q) := by
  obtain ⟨ha1, ha2, ha3, ha4⟩ := ha
  obtain ⟨hb1, hb2, hb3, hb4⟩ := hb
  have hE1 : min (p - (a.length : Int)) (q - b.length) ≤ p - a.length := by omega
  have hE2 : min (p - (a.length : Int)) (q - b.length) ≤ q - b.length := by omega
  have empt : ∀ (z : Int), (a = [] ∨ b = []) → Lib.compareBytes a b = cmpD a p b q := by
    intro _ h
    unfold cmpD
    by_cases h1 : a = []
    · by_cases h2 : b = []
      · subst h1; subst h2; rw [cmpN]; simp [sv, val_nil, Lib.compareBytes]
      · subst h1
        rw [cmpN_lt]
        · cases b with
          | nil => exact absurd rfl h2
          | cons d u => rfl
        · have h3 : 0 < sv b q (min (p - (([] : List UInt8).length : Int)) (q - b.length)) := Nat.mul_pos (Nat.pos_of_ne_zero (val_pos hb1 hb2 h2)) (Nat.pow_pos (by omega))
          simpa [sv, val_nil] using h3
    · have h2 : b = [] := by rcases h with h | h; exact absurd h h1; exact h
      subst h2
      rw [cmpN_gt]
      · cases a with
        | nil => exact absurd rfl h1
        | cons d u => rfl
      · have h3 : 0 < sv a p (min (p - (a.length : Int)) (q - (([] : List UInt8).length : Int))) := Nat.mul_pos (Nat.pos_of_ne_zero (val_pos ha1 ha2 h1)) (Nat.pow_pos (by omega))
        simpa [sv, val_nil] using h3
  have hcmp : strings_Compare.f (S a) (S b) = some (Lib.compareBytes a b) := rfl
  unfold bigdec_cmp.f
  rw [toList_L, L_S, toList_L, L_S]
  by_cases h1 : a = []
  · refine Ev.congr (f := fun k => bigdec_cmp.j0 k true (S a) p (S b) q) (fun k => by rw [if_pos h1]) (Ev.step (f := fun _ => some (cmpD a p b q)) (fun k => ?_) (Ev.now _))
    simp only [bigdec_cmp.j0]
    rw [if_pos trivial, hcmp, Option.bind_some, empt 0 (.inl h1)]
  · by_cases h2 : b = []
    · refine Ev.congr (f := fun k => bigdec_cmp.j0 k true (S a) p (S b) q) (fun k => by rw [if_neg h1, h2]; rfl) (Ev.step (f := fun _ => some (cmpD a p b q)) (fun k => ?_) (Ev.now _))
      simp only [bigdec_cmp.j0]
      rw [if_pos trivial, hcmp, Option.bind_some, empt 0 (.inr h2)]
    · refine Ev.congr (f := fun k => bigdec_cmp.j0 k false (S a) p (S b) q) (fun k => by rw [if_neg h1]; congr 1; simpa using h2) (Ev.step (f := fun _ => some (cmpD a p b q)) (fun k => ?_) (Ev.now _))
      simp only [bigdec_cmp.j0]
      rw [if_neg (by simp)]
      have hal : 0 < a.length := List.length_pos_iff.2 h1
      have hbl : 0 < b.length := List.length_pos_iff.2 h2
      have la := sv_lt ha1 hE1
      have lb := sv_lt hb1 hE2
      have ga := sv_ge ha1 ha2 h1 hE1
      have gb := sv_ge hb1 hb2 h2 hE2
      generalize hE : min (p - (a.length : Int)) (q - b.length) = E at *
      by_cases h3 : p < q
      · rw [if_pos h3]
        unfold cmpD
        rw [hE, cmpN_lt]
        have : 10 ^ (p - E).toNat ≤ 10 ^ (q - 1 - E).toNat := Nat.pow_le_pow_right (by omega) (by omega)
        omega
      · rw [if_neg h3]
        by_cases h4 : p > q
        · rw [if_pos h4]
          unfold cmpD
          rw [hE, cmpN_gt]
          have : 10 ^ (q - E).toNat ≤ 10 ^ (p - 1 - E).toNat := Nat.pow_le_pow_right (by omega) (by omega)
          omega
        · rw [if_neg h4, hcmp, Option.bind_some]
          have e : p = q := by omega
          subst e
          rw [lex_val a b (p - E).toNat ha1 hb1 ha3 hb3 (by omega) (by omega)]
          unfold cmpD sv
          rw [hE]
          have e1 : (p - E).toNat - a.length = (p - (a.length : Int) - E).toNat := by omega
          have e2 : (p - E).toNat - b.length = (p - (b.length : Int) - E).toNat := by omega
          rw [e1, e2]
theorem normS_cases (s : ByteArray) (p : Int) : (∃ e : Int, normS s p = (⟨#[]⟩, 0, e) ∧ e ≠ 0 ∧ (e = 2 ∨ e = 4)) ∨ ∃ l q, normS s p = (S l, q, 0) ∧ InForm l q ∧ l.length ≤ 2000 ∧ -7000 ≤ q ∧ q ≤ 5000 ∧ AllD (L s) ∧ (l, q) = decOf (val (L s)) (p - (L s).length) := by
  unfold normS
  by_cases h : s.size > 2000
  · rw [if_pos h]; exact .inl ⟨2, rfl, by omega, .inl rfl⟩
  · rw [if_neg h]
    unfold normTail
    by_cases h1 : (L s).all isD = true
    · rw [if_pos h1]
      by_cases h2 : p < -5000
      · rw [if_pos h2]; exact .inl ⟨2, rfl, by omega, .inl rfl⟩
      · rw [if_neg h2]
        by_cases h3 : p > 5000
        · rw [if_pos h3]; exact .inl ⟨2, rfl, by omega, .inl rfl⟩
        · rw [if_neg h3]
          have hall : AllD (L s) := fun c hc => (isD_iff c).1 (List.all_eq_true.1 h1 c hc)
          have hf := formL_eq hall p
          have hin := inForm_decOf (val (L s)) (p - (L s).length)
          rw [← hf] at hin
          have hl := length_dz (L s)
          have hl2 := length_rz (dz (L s))
          rw [← size_L] at hl
          refine .inr ⟨(formL (L s) p).1, (formL (L s) p).2, rfl, hin, ?_, ?_, ?_, hall, by rw [← hf]⟩
          · unfold formL; split
            · simp
            · show (rz (dz (L s))).length ≤ 2000
              omega
          · unfold formL; split
            · show (-7000 : Int) ≤ 0
              omega
            · show (-7000 : Int) ≤ p - _
              rw [← size_L]
              omega
          · unfold formL; split
            · show (0 : Int) ≤ 5000
              omega
            · show p - _ ≤ (5000 : Int)
              rw [← size_L]
              omega
    · rw [if_neg h1]; exact .inl ⟨4, rfl, by omega, .inr rfl⟩
def cmpS (s : ByteArray) (p : Int) (t : ByteArray) (q : Int) : Int × Int :=
  if (normS s p).2.2 = 0 then (if (normS t q).2.2 = 0 then (cmpD (L (normS s p).1) (normS s p).2.1 (L (normS t q).1) (normS t q).2.1, 0) else (0, (normS t q).2.2)) else (0, (normS s p).2.2)
theorem two_eq (s : ByteArray) (p : Int) (t : ByteArray) (q : Int) : Ev (fun k => bigdec_two.f k s p t q) (if (normS s p).2.2 = 0 then ((normS s p).1, (normS s p).2.1, (normS t q).1, (normS t q).2.1, (normS t q).2.2) else ((normS s p).1, (normS s p).2.1, t, q, (normS s p).2.2)) := by
  unfold bigdec_two.f
  refine Ev.bind (norm_eq s p) ?_
  by_cases h : (normS s p).2.2 = 0
  · rw [if_pos h]
    exact Ev.congr (fun k => by rw [if_pos h]) (Ev.bind (f := fun _ bt => some ((normS s p).1, (normS s p).2.1, bt.1, bt.2.1, bt.2.2)) (norm_eq t q) (Ev.now _))
  · rw [if_neg h]
    exact Ev.congr (fun k => by rw [if_neg h]) (Ev.now _)
theorem cmpS_eq (s : ByteArray) (p : Int) (t : ByteArray) (q : Int) : Ev (fun k => bigdec_Cmp.f k s p t q) (cmpS s p t q) := by
  unfold bigdec_Cmp.f cmpS
  refine Ev.bind (two_eq s p t q) ?_
  rcases normS_cases s p with ⟨e, h1, h2, _⟩ | ⟨l, u, h1, hf1, _⟩
  · rw [h1, if_neg h2, if_neg h2]
    exact Ev.congr (fun k => by rw [if_neg h2]) (Ev.now _)
  · rw [h1, if_pos rfl, if_pos rfl]
    rcases normS_cases t q with ⟨e, h3, h4, _⟩ | ⟨m, v, h3, hf2, _⟩
    · rw [h3, if_neg h4]
      exact Ev.congr (fun k => by rw [if_neg h4]) (Ev.now _)
    · rw [h3, if_pos rfl]
      refine Ev.congr (fun k => by rw [if_pos rfl]) (Ev.bind (f := fun _ x => some (x, (0 : Int))) (cmp_eq hf1 hf2) (Ev.now _))
theorem val_digit {l : List UInt8} (h : AllD l) (i : Nat) (hi : i < l.length) : val l / 10 ^ (l.length - 1 - i) % 10 = dig l[i] := by
  have e : l = l.take (i + 1) ++ l.drop (i + 1) := (List.take_append_drop _ _).symm
  have e2 : l.take (i + 1) = l.take i ++ [l[i]] := List.take_succ_eq_append_getElem hi
  have hv : val l = (10 * val (l.take i) + dig l[i]) * 10 ^ (l.length - 1 - i) + val (l.drop (i + 1)) := by
    have hl : (l.drop (i + 1)).length = l.length - 1 - i := by rw [List.length_drop]; omega
    rw [← hl, ← val_snoc, ← e2, ← val_append, ← e]
  have hlt : val (l.drop (i + 1)) < 10 ^ (l.length - 1 - i) := by
    have := val_lt (h.drop (i + 1))
    rw [List.length_drop] at this
    have e3 : l.length - (i + 1) = l.length - 1 - i := by omega
    rw [e3] at this
    exact this
  have hd : dig l[i] < 10 := by have := h l[i] (List.getElem_mem hi); unfold dig; omega
  rw [hv, Nat.mul_comm, Nat.mul_add_div (Nat.pow_pos (by omega)), Nat.div_eq_of_lt hlt]
  omega
theorem digit_eq {l : List UInt8} {p E x : Int} (h : AllD l) (hE : E ≤ p - l.length) (hx : E ≤ x) (hb : l.length ≤ 100000 ∧ -100000 ≤ p ∧ p ≤ 100000 ∧ -100000 ≤ x ∧ x ≤ 100000) :
    platenref04_digit.f (S l) p x = some ((sv l p E / 10 ^ (x - E).toNat % 10 : Nat) : Int) := by
  unfold platenref04_digit.f
  have hw : wrap64 (wrap64 (p - 1) - x) = p - 1 - x := by rw [wrap_id (x := p - 1) (by omega) (by omega), wrap_id (by omega) (by omega)]
  rw [hw, size_S]
  by_cases h1 : p - 1 - x < 0
  · rw [if_pos h1]
    have hlt := sv_lt h hE
    have : 10 ^ (p - E).toNat ≤ 10 ^ (x - E).toNat := Nat.pow_le_pow_right (by omega) (by omega)
    rw [Nat.div_eq_of_lt (by omega)]
    rfl
  · rw [if_neg h1]
    by_cases h2 : p - 1 - x ≥ (l.length : Int)
    · rw [if_pos h2]
      unfold sv
      have e : (p - l.length - E).toNat = (p - l.length - x).toNat + (x - E).toNat := by omega
      rw [e, Nat.pow_add, ← Nat.mul_assoc, Nat.mul_div_cancel _ (Nat.pow_pos (by omega))]
      obtain ⟨j, hj⟩ : ∃ j, (p - l.length - x).toNat = j + 1 := ⟨(p - l.length - x).toNat - 1, by omega⟩
      rw [hj, Nat.pow_succ, ← Nat.mul_assoc, Nat.mul_mod_left]
      rfl
    · obtain ⟨i, hi⟩ : ∃ i : Nat, p - 1 - x = (i : Int) := ⟨(p - 1 - x).toNat, by omega⟩
      have hil : i < l.length := by omega
      rw [if_neg h2, hi, if_pos (by omega), if_pos (by omega), bt_L (S l) i (by rw [size_S]; exact hil)]
      simp only [L_S]
      have hd := h l[i] (List.getElem_mem hil)
      have hv := val_digit h i hil
      have e : sv l p E / 10 ^ (x - E).toNat = val l / 10 ^ (l.length - 1 - i) := by
        unfold sv
        have e1 : (x - E).toNat = (l.length - 1 - i) + (p - l.length - E).toNat := by omega
        rw [e1, Nat.pow_add, Nat.mul_comm (10 ^ (l.length - 1 - i)), ← Nat.div_div_eq_div_mul, Nat.mul_div_cancel _ (Nat.pow_pos (by omega))]
      rw [e, hv]
      unfold dig at *
      congr 1
      omega
theorem top_digit {A B n : Nat} (hA : A < 10 ^ (n + 1)) (hB : B < 10 ^ (n + 1)) : cmpN A B = (if A / 10 ^ n % 10 < B / 10 ^ n % 10 then -1 else if B / 10 ^ n % 10 < A / 10 ^ n % 10 then 1 else cmpN (A % 10 ^ n) (B % 10 ^ n)) := by
  have hp : 0 < 10 ^ n := Nat.pow_pos (by omega)
  rw [Nat.pow_succ] at hA hB
  have a1 : A / 10 ^ n < 10 := Nat.div_lt_of_lt_mul hA
  have b1 : B / 10 ^ n < 10 := Nat.div_lt_of_lt_mul hB
  rw [Nat.mod_eq_of_lt a1, Nat.mod_eq_of_lt b1]
  have ea := Nat.div_add_mod A (10 ^ n)
  have eb := Nat.div_add_mod B (10 ^ n)
  have ma := Nat.mod_lt A hp
  have mb := Nat.mod_lt B hp
  have less : ∀ x y r s M : Nat, x < y → r < M → M * x + r < M * y + s := by
    intro x y r s M hxy hr
    have : M * (x + 1) ≤ M * y := Nat.mul_le_mul_left _ hxy
    rw [Nat.mul_add] at this
    omega
  by_cases h1 : A / 10 ^ n < B / 10 ^ n
  · rw [if_pos h1, cmpN_lt]
    rw [← ea, ← eb]
    exact less _ _ _ _ _ h1 ma
  · rw [if_neg h1]
    by_cases h2 : B / 10 ^ n < A / 10 ^ n
    · rw [if_pos h2, cmpN_gt]
      rw [← ea, ← eb]
      exact less _ _ _ _ _ h2 mb
    · rw [if_neg h2]
      have e : A / 10 ^ n = B / 10 ^ n := by omega
      rw [e] at ea
      rw [← cmpN_add (10 ^ n * (B / 10 ^ n)) (A % 10 ^ n), ea, eb]
theorem mod_digit (A n j : Nat) (h : j < n) : A % 10 ^ n / 10 ^ j % 10 = A / 10 ^ j % 10 := by
  obtain ⟨d, rfl⟩ : ∃ d, n = j + 1 + d := ⟨n - (j + 1), by omega⟩
  have e : 10 ^ (j + 1 + d) = 10 ^ j * (10 * 10 ^ d) := by rw [Nat.pow_add, Nat.pow_succ, Nat.mul_assoc]
  rw [e, Nat.mod_mul_right_div_self, Nat.mod_mul_right_mod]
theorem rcmp_l0 {a b : List UInt8} {p q E : Int} (ha : AllD a) (hb : AllD b) (h1 : E ≤ p - a.length) (h2 : E ≤ q - b.length)
    (hba : a.length ≤ 100000 ∧ -50000 ≤ p ∧ p ≤ 50000) (hbb : b.length ≤ 100000 ∧ -50000 ≤ q ∧ q ≤ 50000) (hE : -50000 ≤ E) :
    ∀ (n : Nat), E + n ≤ 50000 → Ev (fun k => platenref04_Compare.l0 k E (E + n - 1) (S a) p (S b) q) (cmpN (sv a p E % 10 ^ n) (sv b q E % 10 ^ n)) := by
  intro n
  induction n with
  | zero =>
    intro _
    refine Ev.step (f := fun _ => some (0 : Int)) (fun k => ?_) ?_
    · simp only [platenref04_Compare.l0]
      rw [if_neg (by omega)]
    · rw [Nat.pow_zero, Nat.mod_one, Nat.mod_one]
      exact Ev.now _
  | succ n ih =>
    intro hn
    have d1 := digit_eq (x := E + n) ha h1 (by omega) (by omega)
    have d2 := digit_eq (x := E + n) hb h2 (by omega) (by omega)
    have en : (E + n - E).toNat = n := by omega
    rw [en] at d1 d2
    have ht := top_digit (Nat.mod_lt (sv a p E) (Nat.pow_pos (n := n + 1) (show 0 < 10 by omega))) (Nat.mod_lt (sv b q E) (Nat.pow_pos (n := n + 1) (show 0 < 10 by omega)))
    rw [mod_digit _ _ _ (by omega), mod_digit _ _ _ (by omega), Nat.pow_succ, Nat.mod_mul_right_mod, Nat.mod_mul_right_mod, ← Nat.pow_succ] at ht
    rw [ht]
    have ex : E + ((n + 1 : Nat) : Int) - 1 = E + n := by omega
    rw [ex]
    have hbody : ∀ k, platenref04_Compare.l0 (k + 1) E (E + n) (S a) p (S b) q = (if sv a p E / 10 ^ n % 10 < sv b q E / 10 ^ n % 10 then some (-1) else if sv b q E / 10 ^ n % 10 < sv a p E / 10 ^ n % 10 then some 1 else platenref04_Compare.l0 k E (E + n - 1) (S a) p (S b) q) := by
      intro k
      simp only [platenref04_Compare.l0]
      rw [if_pos (by omega), d1, Option.bind_some, d2, Option.bind_some, wrap_id (by omega) (by omega)]
      by_cases c1 : sv a p E / 10 ^ n % 10 < sv b q E / 10 ^ n % 10
      · rw [if_pos c1, if_pos (by omega)]
      · rw [if_neg c1, if_neg (by omega)]
        by_cases c2 : sv b q E / 10 ^ n % 10 < sv a p E / 10 ^ n % 10
        · rw [if_pos c2, if_pos (by omega)]
        · rw [if_neg c2, if_neg (by omega)]
    refine Ev.step hbody ?_
    by_cases c1 : sv a p E / 10 ^ n % 10 < sv b q E / 10 ^ n % 10
    · rw [if_pos c1]
      exact Ev.congr (fun k => by rw [if_pos c1]) (Ev.now _)
    · rw [if_neg c1]
      by_cases c2 : sv b q E / 10 ^ n % 10 < sv a p E / 10 ^ n % 10
      · rw [if_pos c2]
        exact Ev.congr (fun k => by rw [if_neg c1, if_pos c2]) (Ev.now _)
      · rw [if_neg c2]
        exact Ev.congr (fun k => by rw [if_neg c1, if_neg c2]) (ih (by omega))
theorem low_eq (l : List UInt8) (p : Int) (hb : l.length ≤ 100000 ∧ -100000 ≤ p ∧ p ≤ 100000) : platenref04_low.f (S l) p = some (p - l.length) := by
  unfold platenref04_low.f
  rw [size_S, wrap_id (by omega) (by omega)]
theorem mod_sv {l : List UInt8} (h : AllD l) {p E : Int} (hE : E ≤ p - l.length) (n : Nat) (hn : p - E ≤ n) : sv l p E % 10 ^ n = sv l p E := by
  have h1 := sv_lt h hE
  have : 10 ^ (p - E).toNat ≤ 10 ^ n := Nat.pow_le_pow_right (by omega) (by omega)
  exact Nat.mod_eq_of_lt (by omega)
theorem cmpD_nil_left {b : List UInt8} {q : Int} (hb : InForm b q) (hn : b ≠ []) (p : Int) : cmpD [] p b q = -1 := by
  unfold cmpD
  have h3 : 0 < sv b q (min (p - (([] : List UInt8).length : Int)) (q - b.length)) := Nat.mul_pos (Nat.pos_of_ne_zero (val_pos hb.1 hb.2.1 hn)) (Nat.pow_pos (by omega))
  rw [cmpN_lt]
  simpa [sv, val_nil] using h3
theorem cmpD_nil_right {a : List UInt8} {p : Int} (ha : InForm a p) (hn : a ≠ []) (q : Int) : cmpD a p [] q = 1 := by
  unfold cmpD
  have h3 : 0 < sv a p (min (p - (a.length : Int)) (q - (([] : List UInt8).length : Int))) := Nat.mul_pos (Nat.pos_of_ne_zero (val_pos ha.1 ha.2.1 hn)) (Nat.pow_pos (by omega))
  rw [cmpN_gt]
  simpa [sv, val_nil] using h3
theorem rcmp_eq {a b : List UInt8} {p q : Int} (ha : InForm a p) (hb : InForm b q) (hba : a.length ≤ 10000 ∧ -20000 ≤ p ∧ p ≤ 20000) (hbb : b.length ≤ 10000 ∧ -20000 ≤ q ∧ q ≤ 20000) :
    Ev (fun k => platenref04_Compare.f k (S a) p (S b) q) (cmpD a p b q) := by
  unfold platenref04_Compare.f
  rw [toList_L, L_S, toList_L, L_S]
  by_cases h1 : a = []
  · refine Ev.congr (f := fun k => platenref04_Compare.j0 k (b == []) (S a) p (S b) q) (fun k => by rw [if_pos h1]) ?_
    by_cases h2 : b = []
    · refine Ev.step (f := fun _ => some (cmpD a p b q)) (fun k => ?_) (Ev.now _)
      simp only [platenref04_Compare.j0]
      rw [if_pos (by rw [h2]; rfl), h1, h2]
      unfold cmpD
      simp [sv, val_nil, cmpN]
    · refine Ev.step (f := fun _ => some (cmpD a p b q)) (fun k => ?_) (Ev.now _)
      simp only [platenref04_Compare.j0]
      rw [if_neg (by simpa using h2), toList_L, L_S, if_pos h1, h1, cmpD_nil_left hb h2]
  · refine Ev.congr (f := fun k => platenref04_Compare.j0 k false (S a) p (S b) q) (fun k => by rw [if_neg h1]) ?_
    by_cases h2 : b = []
    · refine Ev.step (f := fun _ => some (cmpD a p b q)) (fun k => ?_) (Ev.now _)
      simp only [platenref04_Compare.j0]
      rw [if_neg (by simp), toList_L, L_S, if_neg h1, toList_L, L_S, if_pos h2, h2, cmpD_nil_right ha h1]
    · have key : ∀ (E : Int), E = min (p - (a.length : Int)) (q - b.length) → ∀ top : Int, top = max p q → Ev (fun k => platenref04_Compare.l0 k E top (S a) p (S b) q) (cmpD a p b q) := by
        intro E hE top ht
        have h3 := rcmp_l0 (E := E) (p := p) (q := q) ha.1 hb.1 (by omega) (by omega) (by omega) (by omega) (by omega) (top - E + 1).toNat (by omega)
        have e : E + ((top - E + 1).toNat : Int) - 1 = top := by omega
        rw [e, mod_sv (E := E) (p := p) ha.1 (by omega) _ (by omega), mod_sv (E := E) (p := q) hb.1 (by omega) _ (by omega), ← cmpD_at (E := E) (by omega) (by omega)] at h3
        exact h3
      have key2 : ∀ top : Int, top = max p q → Ev (fun k => platenref04_Compare.j1 k top (p - a.length) (S a) p (S b) q) (cmpD a p b q) := by
        intro top ht
        by_cases h4 : q - (b.length : Int) < p - a.length
        · refine Ev.step (f := fun k => platenref04_Compare.j2 k top (q - b.length) (S a) p (S b) q) (fun k => ?_) (Ev.step (fun k => rfl) (key _ (by omega) top ht))
          simp only [platenref04_Compare.j1]
          rw [low_eq b q (by omega), Option.bind_some, if_pos h4, Option.bind_some]
        · refine Ev.step (f := fun k => platenref04_Compare.j2 k top (p - a.length) (S a) p (S b) q) (fun k => ?_) (Ev.step (fun k => rfl) (key _ (by omega) top ht))
          simp only [platenref04_Compare.j1]
          rw [low_eq b q (by omega), Option.bind_some, if_neg h4]
      by_cases h5 : q > p
      · refine Ev.step (f := fun k => platenref04_Compare.j1 k q (p - a.length) (S a) p (S b) q) (fun k => ?_) (key2 q (by omega))
        simp only [platenref04_Compare.j0]
        rw [if_neg (by simp), toList_L, L_S, if_neg h1, toList_L, L_S, if_neg h2, low_eq a p (by omega), Option.bind_some, if_pos h5]
      · refine Ev.step (f := fun k => platenref04_Compare.j1 k p (p - a.length) (S a) p (S b) q) (fun k => ?_) (key2 p (by omega))
        simp only [platenref04_Compare.j0]
        rw [if_neg (by simp), toList_L, L_S, if_neg h1, toList_L, L_S, if_neg h2, low_eq a p (by omega), Option.bind_some, if_neg h5]
end Go.Proofs.YtmeapdchnnpceaaDoor.Pure
end
section
namespace Go.Proofs.YtmeapdchnnpceaaDoor.Fn
open Go.RowKit Go.Proofs.YtmeapdchnnpceaaDoorW.PrintWords Go.Proofs.YtmeapdchnnpceaaDoorW.PrintLast Go.Proofs.YtmeapdchnnpceaaDoorW.PrintMore
attribute [local go_sem] min2_int min_two
set_option linter.unusedVariables false
set_option linter.unusedSimpArgs false
def platenref04_Text.l0 : Nat → List Int → List Int → List Int → Int → Int → Option (ByteArray)
 | 0, _, _, _, _, _ => none
 | k + 1, x0, x8, x9, x10, x11 => if x11 < x10 then (if 0 ≤ x11 then (if x11 < (x9.length : Int) then (if 0 ≤ (wrap64 ((wrap64 ((x0.length : Int) - 1)) - x11)) then (if (wrap64 ((wrap64 ((x0.length : Int) - 1)) - x11)) < (x8.length : Int) then (platenref04_Text.l0 k x0 (x8.set ((wrap64 ((wrap64 ((x0.length : Int) - 1)) - x11)) : Int).toNat ((48 + (rd x9 x11)) % 256)) x9 x10 (wrap64 (x11 + 1))) else (none)) else (none)) else (none)) else (none)) else (some (strOfNums x8))
def platenref04_Text.f (k : Nat) (l0 : List Int) : Option (ByteArray) := if 0 ≤ (l0.length : Int) then (if ((l0.length : Int) : Int).toNat ≤ 281474976710656 then (platenref04_Text.l0 k l0 (List.replicate ((l0.length : Int) : Int).toNat 0) l0 (l0.length : Int) 0) else (none)) else (none)
set_option maxHeartbeats 8000000 in
set_option maxRecDepth 100000 in
theorem platenref04_Text.calls (k : Nat) (A0 : Option Addr) (c0 : Nat) (l0 : List Int) (r : ByteArray) (w : World) (hr0 : Kd.C (Kd.int .u8) w A0 l0.length l0) (hc0 : l0.length ≤ c0) (h : platenref04_Text.f k l0 = some r) :
  Calls Tryd.prog 59 #[.slice A0 l0.length c0] w fun e w' => e = .returned (.string r) ∧ Below w.heap.size w w' := by
 have HR0 := Aside0.mk hr0
 have HC0 := Aside0.mk hc0
 clear hr0 hc0
 have HB := Aside0.mk (Below.refl w.heap.size w)
 have H : (if 0 ≤ (l0.length : Int) then (if ((l0.length : Int) : Int).toNat ≤ 281474976710656 then (platenref04_Text.l0 k l0 (List.replicate ((l0.length : Int) : Int).toNat 0) l0 (l0.length : Int) 0) else (none)) else (none)) = some r := h
 clear h
 by_cases c2 : 0 ≤ (l0.length : Int)
 ·rw [if_pos c2] at H
  have c2b0 := eq_true c2
  have c2b1 : decide (0 ≤ (l0.length : Int)) = true := decide_eq_true c2
  clear c2
  by_cases c3 : ((l0.length : Int) : Int).toNat ≤ 281474976710656
  ·rw [if_pos c3] at H
   have c3b0 := eq_true c3
   have c3b1 : decide (((l0.length : Int) : Int).toNat ≤ 281474976710656) = true := decide_eq_true c3
   clear c3
   obtain ⟨y436, hy436⟩ : ∃ y_ : List Int, y_ = (List.replicate ((l0.length : Int) : Int).toNat 0) := ⟨_, rfl⟩
   replace H : (platenref04_Text.l0 k l0 y436 l0 (l0.length : Int) 0) = some r := by first | (rw [hy436]; with_reducible exact H) | (have H2_ := (Option.bind_some _ _).symm.trans H; rw [hy436]; with_reducible exact H2_) | (have H2_ := (Option.bind_some _ _).symm.trans H; with_reducible exact H2_) | with_reducible exact H | (rw [hy436]; exact H) | exact H
   have Ny436 := Aside0.mk hy436
   clear hy436
   have H' := Aside0.mk H
   clear H
   go_enter Tryd.func59, Tryd.ntmps59
   go_wp2_with (first | ((with_reducible refine gate_dst (N := 8) rfl ?_); refine Kd.R_make (Kd.int .u8) _ 5 rfl (N := 8) rfl 48 _ _ rfl (l0.length : Int) rfl rfl Tryd.underlying48 (.int .u8 0) 1 info5 rfl (by decide) (by omega) 0 (ok := fun _ => True) (okp := fun _ => True) rfl (fun _ hk => hk) trivial (of_decide_eq_true (by first | (with_reducible assumption) | assumption)) (Nat.le_trans (Nat.mul_le_mul_right _ (of_decide_eq_true (by first | (with_reducible assumption) | assumption) : (l0.length : Int).toNat ≤ 281474976710656)) (by omega)) (Below.refl _ _) (Nat.le_refl _) ?_; intro v437 w4 ho5 hb hg_ hnew_; clear hg_ hnew_; (first | rw [← Ny436.out] at ho5 | (simp only [Int.reduceToNat] at ho5; rw [← Ny436.out] at ho5)); have n0_ := Aside0.mk (Kd.R_lower ho5 (below_size bz)); have n1_ := Aside0.mk (below_step bz hb); clear HB; have HO438 := n0_; have HB := n1_; clear n0_ n1_; clear hb ho5))
   go_loopg [11] k (fun kq v11 w' => ∃ (x8_1 : List Int) (x11_1 : Int), v11 = .int .i64 x11_1 ∧ Aside0 (platenref04_Text.l0 kq l0 x8_1 l0 (l0.length : Int) x11_1 = some r) ∧ Aside0 (kq ≤ k) ∧ Aside0 (Kd.R (Kd.int .u8) 5 w' w.heap.size (fun _ => True) v437 x8_1) ∧ Aside0 (Below w.heap.size w w'))
   case atStart => exact ⟨(y436), (0), rz, H', ⟨Nat.le_refl _⟩, ⟨by (with_reducible repeat (first | apply Kd.R_alloc | apply Kd.R_drewN | apply Kd.R_drew)); exact HO438.out⟩, ⟨bz⟩⟩
   case round =>
    clear H'
    try clear c2
    try clear c2b0
    try clear c2b1
    try clear c3
    try clear c3b0
    try clear c3b1
    obtain ⟨x8_1, x11_1, rfl, HA, HK1, HO_8, HB⟩ := hrel
    cases gk with
    | zero => exact absurd HA.out (by simp [platenref04_Text.l0])
    | succ k1 =>
     have H := HA.out
     clear HA
     simp only [platenref04_Text.l0] at H
     by_cases c6 : x11_1 < (l0.length : Int)
     ·rw [if_pos c6] at H
      have c6b0 := decide_eq_true c6
      clear c6
      by_cases c7 : 0 ≤ x11_1
      ·rw [if_pos c7] at H
       have c7b0 := decide_eq_true c7
       clear c7
       by_cases c8 : x11_1 < (l0.length : Int)
       ·rw [if_pos c8] at H
        have c8b0 := decide_eq_true c8
        clear c8
        obtain ⟨ji9, hji9⟩ : ∃ j_ : Int, (wrap64 ((wrap64 ((l0.length : Int) - 1)) - x11_1)) = j_ := ⟨_, rfl⟩
        (first | rw [hji9] at H | simp only [hji9] at H)
        have hji9w : (IntKind.i64.wrap ((wrap64 ((l0.length : Int) - 1)) - x11_1)) = ji9 := (i64_w _).trans hji9
        by_cases c10 : 0 ≤ (ji9)
        ·rw [if_pos c10] at H
         have c10b0 := decide_eq_true c10
         clear c10
         by_cases c11 : (ji9) < (x8_1.length : Int)
         ·rw [if_pos c11] at H
          have c11b0 := decide_eq_true c11
          clear c11
          obtain ⟨y440, hy440⟩ : ∃ y_ : List Int, y_ = (x8_1.set ((ji9) : Int).toNat ((48 + (rd l0 x11_1)) % 256)) := ⟨_, rfl⟩
          replace H : (platenref04_Text.l0 k1 l0 y440 l0 (l0.length : Int) (wrap64 (x11_1 + 1))) = some r := by first | (rw [hy440]; with_reducible exact H) | (have H2_ := (Option.bind_some _ _).symm.trans H; rw [hy440]; with_reducible exact H2_) | (have H2_ := (Option.bind_some _ _).symm.trans H; with_reducible exact H2_) | with_reducible exact H | (rw [hy440]; exact H) | exact H
          have Ny440 := Aside0.mk hy440
          clear hy440
          have H' := Aside0.mk H
          clear H
          have p439 : 0 ≤ (x11_1 : Int) := of_decide_eq_true (by first | (with_reducible assumption) | assumption)
          have q439 : x11_1 < (l0.length : Int) := of_decide_eq_true (by first | (with_reducible assumption) | assumption)
          obtain ⟨ad439, e439, hx439_0⟩ := Kd.at_int HR0.out x11_1 p439 q439
          cases e439
          replace hx439_0 := (HB.out.cell (World.block_lt_of_cell? w _ hx439_0)).trans hx439_0
          replace p439 := eq_true p439
          replace q439 := eq_true q439
          have p12 : 0 ≤ ((ji9) : Int) := of_decide_eq_true (by first | (with_reducible assumption) | assumption)
          have q12 : ((ji9) : Int) < ((x8_1.length : Int) : Int) := of_decide_eq_true (by first | (with_reducible assumption) | assumption)
          obtain ⟨go12, co12, eo12, gb12, gl12, cl12, HG12⟩ := Kd.R_form HO_8.out (by omega)
          (first | cases eo12 | (injection eo12 with ea_ en_ ec_; (first | subst ea_ | (injection ea_ with ea_; subst ea_)); subst ec_; clear en_))
          have GB12 := Aside0.mk gb12
          have GG12 := Aside0.mk HG12
          clear gb12 gl12 HG12
          obtain ⟨hx12_0, hf12_0⟩ := Kd.R_celln 0 HO_8.out ((ji9) : Int) p12 q12
          replace p12 := eq_true p12
          replace q12 := eq_true q12
          have HP13 := Kd.R_putg HO_8.out ((ji9) : Int) ((48 + (rd l0 x11_1)) % 256)
          go_wp2_with (first | ((with_reducible refine gate_store (t := 5) (p := 24) rfl ?_); refine store_event (t := 5) (p := 24) (v := ?vo_w14) (w1 := (wr.setCell ⟨go12, ((ji9) : Int).toNat, none⟩ (.int .u8 ((48 + (rd l0 x11_1)) % 256)))) ?hg ?ho ?hn ?hr ?_; (case ho => rfl); (case hg => rfl); (case hn => rfl); (case hr => first | (go_simp; done) | (go_simp; rfl)); intro w14 hw; have hg : wr.grownBy w14 (some go12) := (by rw [hw]; exact HP13.2); have hp_ : Kd.R (Kd.int .u8) 5 w14 w.heap.size (fun _ => True) (.slice (some ⟨go12, 0, none⟩) x8_1.length co12) y440 := (by rw [hw, Ny440.out]; exact HP13.1); clear HP13; have n0_ := Aside0.mk (hp_); have n1_ := Aside0.mk ((by rw [hw]; exact below_set (HB.out) GB12.out : Below w.heap.size w w14)); clear HO_8; clear HB; have HO_8 := n0_; have HB := n1_; clear n0_ n1_; clear hg hw hp_))
          go_roundg k1
          case measure => have := HK1.out; omega
          case rel => exact ⟨(y440), (wrap64 (x11_1 + 1)), rz, H', ⟨by have := HK1.out; omega⟩, ⟨by (with_reducible repeat (first | apply Kd.R_alloc | apply Kd.R_drewN | apply Kd.R_drew)); exact HO_8.out⟩, ⟨bz⟩⟩
         ·rw [if_neg c11] at H
          exact absurd H (by simp)
        ·rw [if_neg c10] at H
         exact absurd H (by simp)
       ·rw [if_neg c8] at H
        exact absurd H (by simp)
      ·rw [if_neg c7] at H
       exact absurd H (by simp)
     ·rw [if_neg c6] at H
      have c6b0 := decide_eq_false c6
      clear c6
      obtain rfl := Option.some.inj H
      have hcv15 := own_string (P := Tryd.prog) Tryd.underlying48 Tryd.underlying5 Tryd.underlying9 (Kd.own_of_R HO_8.out)
      go_wp2
      go_ret
      exact ⟨ez, bz⟩
  ·rw [if_neg c3] at H
   exact absurd H (by simp)
 ·rw [if_neg c2] at H
  exact absurd H (by simp)
end Go.Proofs.YtmeapdchnnpceaaDoor.Fn
end
