/- The law ShortReads: the walks through its functions and its plain law (part 2). Own texts and the kit's printed words for this seat, without what the law does not use: put together by merge.py (of this work). -/
import Derived.Test.YtmeapdchnnpceaaDoorMShortReads1
section
namespace Go.Proofs.YtmeapdchnnpceaaDoor.Fn
open Go.RowKit Go.Proofs.YtmeapdchnnpceaaDoorW.PrintWords Go.Proofs.YtmeapdchnnpceaaDoorW.PrintLast Go.Proofs.YtmeapdchnnpceaaDoorW.PrintMore
attribute [local go_sem] min2_int min_two
set_option linter.unusedVariables false
set_option linter.unusedSimpArgs false
mutual
def bigdec_Add.j0 : Nat → ByteArray → Int → ByteArray → Int → Option (ByteArray × Int × Int)
 | 0, _, _, _, _ => none
 | k + 1, x216000, x216001, x217000, x217001 => if 0 ≤ (wrap64 ((wrap64 (x216001 - (mn (wrap64 (x216001 - (x216000.size : Int))) (wrap64 (x217001 - (x217000.size : Int)))))) + 1)) then (if (wrap64 ((wrap64 (x216001 - (mn (wrap64 (x216001 - (x216000.size : Int))) (wrap64 (x217001 - (x217000.size : Int)))))) + 1) : Int).toNat ≤ 281474976710656 then ((some (List.replicate (wrap64 ((wrap64 (x216001 - (mn (wrap64 (x216001 - (x216000.size : Int))) (wrap64 (x217001 - (x217000.size : Int)))))) + 1) : Int).toNat 0 : List Int)).bind fun y224 => (bigdec_Add.l0 k y224 (y224.length : Int) 0 x216000 x216001 x217000 x217001)) else (none)) else (none)
def bigdec_Add.l0 : Nat → List Int → Int → Int → ByteArray → Int → ByteArray → Int → Option (ByteArray × Int × Int)
 | 0, _, _, _, _, _, _, _ => none
 | k + 1, x61, x63, x64, x216000, x216001, x217000, x217001 => if x64 < x63 then (if 0 ≤ x64 then (if x64 < (x61.length : Int) then (bigdec_Add.l0 k (x61.set (x64 : Int).toNat 48) x63 (wrap64 (x64 + 1)) x216000 x216001 x217000 x217001) else (none)) else (none)) else (if 1 ≤ (x61.length : Int) then (if 2 ≤ (x61.length : Int) then (if x216000.size + 1 ≤ x61.length then (bigdec_Add.j2 k (cpyAt x61 1 x216000) x216000 x216001 x217000 x217001) else (none)) else (none)) else (none))
def bigdec_Add.j2 : Nat → List Int → ByteArray → Int → ByteArray → Int → Option (ByteArray × Int × Int)
 | 0, _, _, _, _, _ => none
 | k + 1, x8, x216000, x216001, x217000, x217001 => bigdec_Add.l1 k x8 0 (wrap64 ((x8.length : Int) - 1)) x216000 x216001 x217000 x217001
def bigdec_Add.l1 : Nat → List Int → Int → Int → ByteArray → Int → ByteArray → Int → Option (ByteArray × Int × Int)
 | 0, _, _, _, _, _, _, _ => none
 | k + 1, x8, x10, x11, x216000, x216001, x217000, x217001 => if x11 ≥ 0 then (if 0 ≤ x11 then (if x11 < (x8.length : Int) then (if (wrap64 ((wrap64 (x11 - 1)) - (wrap64 (x216001 - x217001)))) ≥ 0 then (if (wrap64 ((wrap64 (x11 - 1)) - (wrap64 (x216001 - x217001)))) < (x217000.size : Int) then (if 0 ≤ (wrap64 ((wrap64 (x11 - 1)) - (wrap64 (x216001 - x217001)))) then (bigdec_Add.l1 k (x8.set (x11 : Int).toNat (48 + ((((((((rd x8 x11) - 48) % 256) + x10) % 256) + (((bt x217000 (wrap64 ((wrap64 (x11 - 1)) - (wrap64 (x216001 - x217001))))) - 48) % 256)) % 256) % 10))) ((((((((rd x8 x11) - 48) % 256) + x10) % 256) + (((bt x217000 (wrap64 ((wrap64 (x11 - 1)) - (wrap64 (x216001 - x217001))))) - 48) % 256)) % 256) / 10) (wrap64 (x11 - 1)) x216000 x216001 x217000 x217001) else (none)) else (bigdec_Add.l1 k (x8.set (x11 : Int).toNat (48 + ((((((rd x8 x11) - 48) % 256) + x10) % 256) % 10))) ((((((rd x8 x11) - 48) % 256) + x10) % 256) / 10) (wrap64 (x11 - 1)) x216000 x216001 x217000 x217001)) else (bigdec_Add.l1 k (x8.set (x11 : Int).toNat (48 + ((((((rd x8 x11) - 48) % 256) + x10) % 256) % 10))) ((((((rd x8 x11) - 48) % 256) + x10) % 256) / 10) (wrap64 (x11 - 1)) x216000 x216001 x217000 x217001)) else (none)) else (none)) else ((bigdec_form.f (strOfNums x8) (wrap64 (x216001 + 1))).bind fun bt237 => (if (bt237.1.size : Int) > 2000 then (some ((⟨#[]⟩ : ByteArray), 0, 2)) else (some (bt237.1, bt237.2, 0))))
end
def bigdec_Add.f (k : Nat) (a0_0 : ByteArray) (a0_1 : Int) (a1_0 : ByteArray) (a1_1 : Int) : Option (ByteArray × Int × Int) := (bigdec_two.f k a0_0 a0_1 a1_0 a1_1).bind fun bt218 => (if bt218.2.2.2.2 = 0 then (if bt218.1.toList = ([] : List UInt8) then (some (bt218.2.2.1, bt218.2.2.2.1, 0)) else (if bt218.2.2.1.toList = ([] : List UInt8) then (some (bt218.1, bt218.2.1, 0)) else ((bigdec_cmp.f k bt218.1 bt218.2.1 bt218.2.2.1 bt218.2.2.2.1).bind fun t223 => (if t223 < 0 then (bigdec_Add.j0 k bt218.2.2.1 bt218.2.2.2.1 bt218.1 bt218.2.1) else (bigdec_Add.j0 k bt218.1 bt218.2.1 bt218.2.2.1 bt218.2.2.2.1))))) else (some ((⟨#[]⟩ : ByteArray), 0, bt218.2.2.2.2)))
set_option maxHeartbeats 8000000 in
set_option maxRecDepth 100000 in
theorem bigdec_Add.calls (k : Nat) (a0_0 : ByteArray) (a0_1 : Int) (a1_0 : ByteArray) (a1_1 : Int) (r1 : ByteArray) (r2 : Int) (r3 : Int) (w : World) (h : bigdec_Add.f k a0_0 a0_1 a1_0 a1_1 = some (r1, r2, r3)) :
  Calls Tryd.prog 23 #[.agg #[.string a0_0, .int .i64 a0_1], .agg #[.string a1_0, .int .i64 a1_1]] w fun e w' => e = .returned (.tuple #[.agg #[.string r1, .int .i64 r2], .int .i64 r3]) ∧ Below w.heap.size w w' := by
 have hu28 := Tryd.underlying28
 have HB := Aside0.mk (Below.refl w.heap.size w)
 have H : ((bigdec_two.f k a0_0 a0_1 a1_0 a1_1).bind fun bt218 => (if bt218.2.2.2.2 = 0 then (if bt218.1.toList = ([] : List UInt8) then (some (bt218.2.2.1, bt218.2.2.2.1, 0)) else (if bt218.2.2.1.toList = ([] : List UInt8) then (some (bt218.1, bt218.2.1, 0)) else ((bigdec_cmp.f k bt218.1 bt218.2.1 bt218.2.2.1 bt218.2.2.2.1).bind fun t223 => (if t223 < 0 then (bigdec_Add.j0 k bt218.2.2.1 bt218.2.2.2.1 bt218.1 bt218.2.1) else (bigdec_Add.j0 k bt218.1 bt218.2.1 bt218.2.2.1 bt218.2.2.2.1))))) else (some ((⟨#[]⟩ : ByteArray), 0, bt218.2.2.2.2)))) = some (r1, r2, r3) := h
 clear h
 replace H := bs H
 obtain ⟨⟨t218, t219, t220, t221, t222⟩, A3, H⟩ := H
 dsimp only at H
 go_enter Tryd.func23, Tryd.ntmps23
 go_upto_if 22 with (first | ((with_reducible refine gate_dst (N := 2) rfl ?_); (try (refine gate_guard (by rfl) ?_; dsimp only)); refine box_event rfl (N := 2) rfl (cs := #[.string a0_0, .int .i64 a0_1]) (t := 28) gz ?_; intro gb215 hg w4 hbox hb; have GE215 := gN bz hg; have BK215 := Aside0.mk hbox; replace HB := bN bz hb; clear hb hbox hg) | ((with_reducible refine gate_dst (N := 3) rfl ?_); (try (refine gate_guard (by rfl) ?_; dsimp only)); refine box_event rfl (N := 3) rfl (cs := #[.string a1_0, .int .i64 a1_1]) (t := 28) gz ?_; intro gb216 hg w5 hbox hb; have GE216 := gN bz hg; have NB215_216 := lN (g := gb215) (cs := #[.string a0_0, .int .i64 a0_1]) hg bk; have NB216_215 := rN (g := gb215) (cs := #[.string a0_0, .int .i64 a0_1]) hg bk; replace BK215 := kN (g := gb215) (cs := #[.string a0_0, .int .i64 a0_1]) hb bk; have BK216 := Aside0.mk hbox; replace HB := bN bz hb; clear hb hbox hg) | ((with_reducible refine gate_dst (N := 4) rfl ?_); (try (refine gate_guard (by rfl) ?_; dsimp only)); refine box_event rfl (N := 4) rfl (cs := #[.string (⟨#[]⟩ : ByteArray), .int .i64 0]) (t := 28) gz ?_; intro gb217 hg w6 hbox hb; have GE217 := gN bz hg; have NB215_217 := lN (g := gb215) (cs := #[.string a0_0, .int .i64 a0_1]) hg bk; have NB217_215 := rN (g := gb215) (cs := #[.string a0_0, .int .i64 a0_1]) hg bk; have NB216_217 := lN (g := gb216) (cs := #[.string a1_0, .int .i64 a1_1]) hg bk; have NB217_216 := rN (g := gb216) (cs := #[.string a1_0, .int .i64 a1_1]) hg bk; replace BK215 := kN (g := gb215) (cs := #[.string a0_0, .int .i64 a0_1]) hb bk; replace BK216 := kN (g := gb216) (cs := #[.string a1_0, .int .i64 a1_1]) hb bk; have BK217 := Aside0.mk hbox; replace HB := bN bz hb; clear hb hbox hg; have hnb7 := NB215_216.out; have hnc7 := NB216_215.out; have hnb8 := NB215_217.out; have hnc8 := NB217_215.out; obtain ⟨hcz9_0, hcz9_1, hfz9_0, hfz9_1⟩ := cz2 (W := w6) BK215; have hnb10 := NB216_217.out; have hnc10 := NB217_216.out; obtain ⟨hcz11_0, hcz11_1, hfz11_0, hfz11_1⟩ := cz2 (W := w6) BK216) | (go_at_call 49; (with_reducible refine (bigdec_two.calls k a0_0 a0_1 a1_0 a1_1 t218 t219 t220 t221 t222 _ A3.out).mono ?_); rintro e w12 ⟨rfl, hb⟩; replace BK215 := kN (g := gb215) (cs := #[.string a0_0, .int .i64 a0_1]) hb bk; replace BK216 := kN (g := gb216) (cs := #[.string a1_0, .int .i64 a1_1]) hb bk; replace BK217 := kN (g := gb217) (cs := #[.string (⟨#[]⟩ : ByteArray), .int .i64 0]) hb bk; replace HB := bN bz hb; (try clear hb); (try clear hb2); (try clear hk); (try clear hi); obtain ⟨hcz13_0, hcz13_1, hfz13_0, hfz13_1⟩ := cz2 (W := w12) BK215; obtain ⟨hcz14_0, hcz14_1, hfz14_0, hfz14_1⟩ := cz2 (W := w12) BK216))
 (try simp only [Act.put, List.setIfInBounds_toArray, List.set_cons_zero, List.set_cons_succ])
 by_cases c15 : t222 = 0
 ·rw [if_pos c15] at H
  obtain ⟨c15b0, c15b1⟩ := eT c15
  clear c15
  try first | rw [c15b0] | rw [c15b1]
  by_cases c16 : t218.toList = ([] : List UInt8)
  ·rw [if_pos c16] at H
   have c16b0 : (t218.toList == ([] : List UInt8)) = true := beq_iff_eq.mpr c16
   have c16b1 : (t218.toList != ([] : List UInt8)) = false := bne_eq_false_iff_eq.mpr c16
   have c16b7 : t218.toList.isEmpty = true := by simpa using c16b0
   clear c16
   simp only [Option.some.injEq, Prod.mk.injEq] at H
   obtain ⟨rfl, rfl, rfl⟩ := H
   have hnb17 := NB215_216.out
   have hnc17 := NB216_215.out
   have hnb18 := NB215_217.out
   have hnc18 := NB217_215.out
   obtain ⟨hcz19_0, hcz19_1, hfz19_0, hfz19_1⟩ := cz2 (W := w12) BK215
   have hnb20 := NB216_217.out
   have hnc20 := NB217_216.out
   obtain ⟨hcz21_0, hcz21_1, hfz21_0, hfz21_1⟩ := cz2 (W := w12) BK216
   obtain ⟨hcz22_0, hcz22_1, hfz22_0, hfz22_1⟩ := cz2 (W := w12) BK217
   go_wp2
   refine bodyPost_ret (results_ct rfl _ _ gb217 28 #[.string t220, .int .i64 t221] (0, 0) _ rfl bk Tryd.underlying28 rfl (by kernel_rfl)) rfl ?_
   exact ⟨ez, bz⟩
  ·rw [if_neg c16] at H
   have c16b0 : (t218.toList == ([] : List UInt8)) = false := beq_eq_false_iff_ne.mpr c16
   have c16b1 : (t218.toList != ([] : List UInt8)) = true := bne_iff_ne.mpr c16
   have c16b7 : t218.toList.isEmpty = false := by simpa using c16b0
   by_cases c23 : t220.toList = ([] : List UInt8)
   ·rw [if_pos c23] at H
    have c23b0 : (t220.toList == ([] : List UInt8)) = true := beq_iff_eq.mpr c23
    have c23b1 : (t220.toList != ([] : List UInt8)) = false := bne_eq_false_iff_eq.mpr c23
    have c23b7 : t220.toList.isEmpty = true := by simpa using c23b0
    clear c23
    simp only [Option.some.injEq, Prod.mk.injEq] at H
    obtain ⟨rfl, rfl, rfl⟩ := H
    have hnb24 := NB215_216.out
    have hnc24 := NB216_215.out
    have hnb25 := NB215_217.out
    have hnc25 := NB217_215.out
    obtain ⟨hcz26_0, hcz26_1, hfz26_0, hfz26_1⟩ := cz2 (W := w12) BK215
    have hnb27 := NB216_217.out
    have hnc27 := NB217_216.out
    obtain ⟨hcz28_0, hcz28_1, hfz28_0, hfz28_1⟩ := cz2 (W := w12) BK216
    obtain ⟨hcz29_0, hcz29_1, hfz29_0, hfz29_1⟩ := cz2 (W := w12) BK217
    go_wp2
    refine bodyPost_ret (results_ct rfl _ _ gb217 28 #[.string t218, .int .i64 t219] (0, 0) _ rfl bk Tryd.underlying28 rfl (by kernel_rfl)) rfl ?_
    exact ⟨ez, bz⟩
   ·rw [if_neg c23] at H
    have c23b0 : (t220.toList == ([] : List UInt8)) = false := beq_eq_false_iff_ne.mpr c23
    have c23b1 : (t220.toList != ([] : List UInt8)) = true := bne_iff_ne.mpr c23
    have c23b7 : t220.toList.isEmpty = false := by simpa using c23b0
    replace H := bs H
    obtain ⟨t223, A30, H⟩ := H
    have HC31 := Aside0.mk H
    clear H
    have hnb32 := NB215_216.out
    have hnc32 := NB216_215.out
    have hnb33 := NB215_217.out
    have hnc33 := NB217_215.out
    obtain ⟨hcz34_0, hcz34_1, hfz34_0, hfz34_1⟩ := cz2 (W := w12) BK215
    have hnb35 := NB216_217.out
    have hnc35 := NB217_216.out
    obtain ⟨hcz36_0, hcz36_1, hfz36_0, hfz36_1⟩ := cz2 (W := w12) BK216
    go_upto_if 40 with (first | (go_at_call 50; (with_reducible refine (bigdec_cmp.calls k t218 t219 t220 t221 t223 _ A30.out).mono ?_); rintro e w37 ⟨rfl, hb⟩; replace BK215 := kN (g := gb215) (cs := #[.string t218, .int .i64 t219]) hb bk; replace BK216 := kN (g := gb216) (cs := #[.string t220, .int .i64 t221]) hb bk; replace BK217 := kN (g := gb217) (cs := #[.string (⟨#[]⟩ : ByteArray), .int .i64 0]) hb bk; replace HB := bN bz hb; (try clear hb); (try clear hb2); (try clear hk); (try clear hi)))
    (try simp only [Act.put, List.setIfInBounds_toArray, List.set_cons_zero, List.set_cons_succ])
    go_cut [] (fun wc => ∃ (kq : Nat) (x216000_30 : ByteArray) (x216001_30 : Int) (x217000_30 : ByteArray) (x217001_30 : Int), Aside0 (bigdec_Add.j0 kq x216000_30 x216001_30 x217000_30 x217001_30 = some (r1, r2, r3)) ∧ Aside0 (kq ≤ k) ∧ Aside0 (wc.heap[gb215]? = some (.cells #[.string x216000_30, .int .i64 x216001_30] 28 (0, 0))) ∧ Aside0 (wc.heap[gb216]? = some (.cells #[.string x217000_30, .int .i64 x217001_30] 28 (0, 0))) ∧ Aside0 (wc.heap[gb217]? = some (.cells #[.string (⟨#[]⟩ : ByteArray), .int .i64 0] 28 (0, 0))) ∧ Aside0 (Below w.heap.size w wc))
    case first =>
     have H := HC31.out
     clear HC31
     by_cases c38 : t223 < 0
     ·rw [if_pos c38] at H
      have c38b0 := decide_eq_true c38
      clear c38
      try rw [c38b0]
      have H' := Aside0.mk H
      clear H
      have hnb39 := NB216_215.out
      have hnc39 := NB215_216.out
      have hnb40 := NB216_217.out
      have hnc40 := NB217_216.out
      obtain ⟨hcz41_0, hcz41_1, hfz41_0, hfz41_1⟩ := cz2 (W := w37) BK216
      have hnb42 := NB215_217.out
      have hnc42 := NB217_215.out
      obtain ⟨hcz43_0, hcz43_1, hfz43_0, hfz43_1⟩ := cz2 (W := w37) BK215
      go_wp2
      go_meet
      case rel => exact ⟨_, (t220), (t221), (t218), (t219), H', ⟨by first | omega | exact Nat.le_refl _⟩, ⟨bk⟩, ⟨bk⟩, ⟨bk⟩, ⟨bz⟩⟩
     ·rw [if_neg c38] at H
      have c38b0 := decide_eq_false c38
      clear c38
      try rw [c38b0]
      have H' := Aside0.mk H
      clear H
      go_wp2
      go_meet
      case rel => exact ⟨_, (t218), (t219), (t220), (t221), H', ⟨by first | omega | exact Nat.le_refl _⟩, ⟨bk⟩, ⟨bk⟩, ⟨bk⟩, ⟨bz⟩⟩
    case rest =>
     clear HC31
     try clear c15
     try clear c15b0
     try clear c15b1
     try clear c16
     try clear c16b0
     try clear c16b1
     try clear c23
     try clear c23b0
     try clear c23b1
     try clear c38
     try clear c38b0
     try clear hcz11_0 hcz11_1 hfz11_0 hfz11_1
     try clear hcz13_0 hcz13_1 hfz13_0 hfz13_1
     try clear hcz14_0 hcz14_1 hfz14_0 hfz14_1
     try clear hcz19_0 hcz19_1 hfz19_0 hfz19_1
     try clear hcz21_0 hcz21_1 hfz21_0 hfz21_1
     try clear hcz22_0 hcz22_1 hfz22_0 hfz22_1
     try clear hcz26_0 hcz26_1 hfz26_0 hfz26_1
     try clear hcz28_0 hcz28_1 hfz28_0 hfz28_1
     try clear hcz29_0 hcz29_1 hfz29_0 hfz29_1
     try clear hcz34_0 hcz34_1 hfz34_0 hfz34_1
     try clear hcz36_0 hcz36_1 hfz36_0 hfz36_1
     try clear hcz41_0 hcz41_1 hfz41_0 hfz41_1
     try clear hcz43_0 hcz43_1 hfz43_0 hfz43_1
     try clear hcz9_0 hcz9_1 hfz9_0 hfz9_1
     obtain ⟨kq, x216000_30, x216001_30, x217000_30, x217001_30, HA, HJ30, BK215, BK216, BK217, HB⟩ := hcut
     cases kq with
     | zero => exact absurd HA.out (by simp [bigdec_Add.j0])
     | succ kj30 =>
      have H := HA.out
      clear HA
      simp only [bigdec_Add.j0] at H
      obtain ⟨ji44, hji44⟩ : ∃ j_ : Int, (mn (wrap64 (x216001_30 - (x216000_30.size : Int))) (wrap64 (x217001_30 - (x217000_30.size : Int)))) = j_ := ⟨_, rfl⟩
      (first | rw [hji44] at H | simp only [hji44] at H)
      have hji44_ : (if (wrap64 (x217001_30 - (x217000_30.size : Int))) < (wrap64 (x216001_30 - (x216000_30.size : Int))) then (wrap64 (x217001_30 - (x217000_30.size : Int))) else (wrap64 (x216001_30 - (x216000_30.size : Int)))) = ji44 := hji44
      obtain ⟨ji45, hji45⟩ : ∃ j_ : Int, (wrap64 ((wrap64 (x216001_30 - (ji44))) + 1)) = j_ := ⟨_, rfl⟩
      (first | rw [hji45] at H | simp only [hji45] at H)
      have hji45w : (IntKind.i64.wrap ((wrap64 (x216001_30 - (ji44))) + 1)) = ji45 := (i64_w _).trans hji45
      by_cases c46 : 0 ≤ (ji45)
      ·rw [if_pos c46] at H
       have c46b0 := eq_true c46
       have c46b1 : decide (0 ≤ (ji45)) = true := decide_eq_true c46
       clear c46
       by_cases c47 : (ji45 : Int).toNat ≤ 281474976710656
       ·rw [if_pos c47] at H
        have c47b0 := eq_true c47
        have c47b1 : decide ((ji45 : Int).toNat ≤ 281474976710656) = true := decide_eq_true c47
        clear c47
        obtain ⟨y224, hy224⟩ : ∃ y_ : List Int, y_ = (List.replicate (ji45 : Int).toNat 0) := ⟨_, rfl⟩
        replace H : (bigdec_Add.l0 kj30 y224 (y224.length : Int) 0 x216000_30 x216001_30 x217000_30 x217001_30) = some (r1, r2, r3) := by first | (rw [hy224]; with_reducible exact H) | (have H2_ := (Option.bind_some _ _).symm.trans H; rw [hy224]; with_reducible exact H2_) | (have H2_ := (Option.bind_some _ _).symm.trans H; with_reducible exact H2_) | with_reducible exact H | (rw [hy224]; exact H) | exact H
        have Ny224 := Aside0.mk hy224
        clear hy224
        have H' := Aside0.mk H
        clear H
        have hnb48 := NB215_216.out
        have hnc48 := NB216_215.out
        have hnb49 := NB215_217.out
        have hnc49 := NB217_215.out
        obtain ⟨hcz50_0, hcz50_1, hfz50_0, hfz50_1⟩ := cz2 (W := wc) BK215
        have hnb51 := NB216_217.out
        have hnc51 := NB217_216.out
        obtain ⟨hcz52_0, hcz52_1, hfz52_0, hfz52_1⟩ := cz2 (W := wc) BK216
        go_wp2_with (first | ((with_reducible refine gate_dst (N := 61) rfl ?_); (try (refine gate_guard (by rfl) ?_; dsimp only)); refine Kd.R_make (Kd.int .u8) _ 5 rfl (N := 61) rfl 48 _ _ rfl ji45 rfl rfl Tryd.underlying48 (.int .u8 0) 1 info5 rfl (by decide) (by omega) 0 (ok := fun _ => True) (okp := fun _ => True) rfl (fun _ hk => hk) trivial (of_decide_eq_true (by first | (with_reducible assumption) | assumption)) (Nat.le_trans (Nat.mul_le_mul_right _ (of_decide_eq_true (by first | (with_reducible assumption) | assumption) : ji45.toNat ≤ 281474976710656)) (by omega)) (Below.refl _ _) (Nat.le_refl _) ?_; intro v225 w53 ho54 hb hg_ hnew_; clear hg_ hnew_; (first | rw [← Ny224.out] at ho54 | (simp only [Int.reduceToNat] at ho54; rw [← Ny224.out] at ho54)); have n0_ := Aside0.mk (Kd.R_lower ho54 (below_size bz)); have n1_ := Aside0.mk (blk_below (g := gb215) (o := .cells #[.string x216000_30, .int .i64 x216001_30] 28 (0, 0)) bk hb); have n2_ := Aside0.mk (blk_below (g := gb216) (o := .cells #[.string x217000_30, .int .i64 x217001_30] 28 (0, 0)) bk hb); have n3_ := Aside0.mk (blk_below (g := gb217) (o := .cells #[.string (⟨#[]⟩ : ByteArray), .int .i64 0] 28 (0, 0)) bk hb); have n4_ := Aside0.mk (below_step bz hb); clear BK215; clear BK216; clear BK217; clear HB; have HO226 := n0_; have BK215 := n1_; have BK216 := n2_; have BK217 := n3_; have HB := n4_; clear n0_ n1_ n2_ n3_ n4_; clear hb ho54; obtain ⟨Ao55, co55, eo55⟩ := Kd.R_slice HO226.out; subst eo55))
        go_loopg [64] kj30 (fun kq v64 w' => ∃ (x61_2 : List Int) (x64_2 : Int), v64 = .int .i64 x64_2 ∧ Aside0 (bigdec_Add.l0 kq x61_2 (y224.length : Int) x64_2 x216000_30 x216001_30 x217000_30 x217001_30 = some (r1, r2, r3)) ∧ Aside0 (kq ≤ kj30) ∧ Aside0 (Kd.R (Kd.int .u8) 5 w' w.heap.size (fun _ => True) (.slice Ao55 y224.length co55) x61_2) ∧ Aside0 (w'.heap[gb215]? = some (.cells #[.string x216000_30, .int .i64 x216001_30] 28 (0, 0))) ∧ Aside0 (w'.heap[gb216]? = some (.cells #[.string x217000_30, .int .i64 x217001_30] 28 (0, 0))) ∧ Aside0 (w'.heap[gb217]? = some (.cells #[.string (⟨#[]⟩ : ByteArray), .int .i64 0] 28 (0, 0))) ∧ Aside0 (Below w.heap.size w w'))
        case atStart => exact ⟨(y224), (0), rz, H', ⟨Nat.le_refl _⟩, ⟨by (with_reducible repeat (first | apply Kd.R_alloc | apply Kd.R_drewN | apply Kd.R_drew)); exact HO226.out⟩, ⟨bk⟩, ⟨bk⟩, ⟨bk⟩, ⟨bz⟩⟩
        case round =>
         clear H'
         try clear c15
         try clear c15b0
         try clear c15b1
         try clear c16
         try clear c16b0
         try clear c16b1
         try clear c23
         try clear c23b0
         try clear c23b1
         try clear c38
         try clear c38b0
         try clear c46
         try clear c46b0
         try clear c46b1
         try clear c47
         try clear c47b0
         try clear c47b1
         try clear hcz11_0 hcz11_1 hfz11_0 hfz11_1
         try clear hcz13_0 hcz13_1 hfz13_0 hfz13_1
         try clear hcz14_0 hcz14_1 hfz14_0 hfz14_1
         try clear hcz19_0 hcz19_1 hfz19_0 hfz19_1
         try clear hcz21_0 hcz21_1 hfz21_0 hfz21_1
         try clear hcz22_0 hcz22_1 hfz22_0 hfz22_1
         try clear hcz26_0 hcz26_1 hfz26_0 hfz26_1
         try clear hcz28_0 hcz28_1 hfz28_0 hfz28_1
         try clear hcz29_0 hcz29_1 hfz29_0 hfz29_1
         try clear hcz34_0 hcz34_1 hfz34_0 hfz34_1
         try clear hcz36_0 hcz36_1 hfz36_0 hfz36_1
         try clear hcz41_0 hcz41_1 hfz41_0 hfz41_1
         try clear hcz43_0 hcz43_1 hfz43_0 hfz43_1
         try clear hcz50_0 hcz50_1 hfz50_0 hfz50_1
         try clear hcz52_0 hcz52_1 hfz52_0 hfz52_1
         try clear hcz9_0 hcz9_1 hfz9_0 hfz9_1
         obtain ⟨x61_2, x64_2, rfl, HA, HK2, HO_61, BK215, BK216, BK217, HB⟩ := hrel
         have hl61_2 := (Kd.R_reads' HO_61.out).1
         rw [hl61_2] at HO_61
         (try simp only [hl61_2])
         (try simp only [hl61_2] at BK215)
         (try simp only [hl61_2] at BK216)
         (try simp only [hl61_2] at BK217)
         cases gk with
         | zero => exact absurd HA.out (by simp [bigdec_Add.l0])
         | succ k2 =>
          have H := HA.out
          clear HA
          simp only [bigdec_Add.l0] at H
          by_cases c56 : x64_2 < (y224.length : Int)
          ·rw [if_pos c56] at H
           have c56b0 := decide_eq_true c56
           (try (have c56b9 := c56b0; (first | rw [hl61_2] at c56b9); skip))
           clear c56
           by_cases c57 : 0 ≤ x64_2
           ·rw [if_pos c57] at H
            have c57b0 := decide_eq_true c57
            clear c57
            by_cases c58 : x64_2 < (x61_2.length : Int)
            ·rw [if_pos c58] at H
             have c58b0 := decide_eq_true c58
             (try (have c58b9 := c58b0; (first | rw [hl61_2] at c58b9); skip))
             clear c58
             obtain ⟨y227, hy227⟩ : ∃ y_ : List Int, y_ = (x61_2.set (x64_2 : Int).toNat 48) := ⟨_, rfl⟩
             replace H : (bigdec_Add.l0 k2 y227 (y224.length : Int) (wrap64 (x64_2 + 1)) x216000_30 x216001_30 x217000_30 x217001_30) = some (r1, r2, r3) := by first | (rw [hy227]; with_reducible exact H) | (have H2_ := (Option.bind_some _ _).symm.trans H; rw [hy227]; with_reducible exact H2_) | (have H2_ := (Option.bind_some _ _).symm.trans H; with_reducible exact H2_) | with_reducible exact H | (rw [hy227]; exact H) | exact H
             have Ny227 := Aside0.mk hy227
             clear hy227
             have H' := Aside0.mk H
             clear H
             have p59 : 0 ≤ (x64_2 : Int) := of_decide_eq_true (by first | (with_reducible assumption) | assumption)
             have q59 : (x64_2 : Int) < ((x61_2.length : Int) : Int) := of_decide_eq_true (by first | (with_reducible assumption) | assumption)
             obtain ⟨go59, co59, eo59, gb59, gl59, cl59, HG59⟩ := Kd.R_form HO_61.out (by omega)
             (first | cases eo59 | (injection eo59 with ea_ en_ ec_; (first | subst ea_ | (injection ea_ with ea_; subst ea_)); subst ec_; clear en_))
             have GB59 := Aside0.mk gb59
             have GG59 := Aside0.mk HG59
             clear gb59 gl59 HG59
             obtain ⟨hx59_0, hf59_0⟩ := Kd.R_celln 0 HO_61.out (x64_2 : Int) p59 q59
             replace p59 := eq_true p59
             replace q59 := eq_true q59
             have HP60 := Kd.R_putg HO_61.out (x64_2 : Int) 48
             go_wp2_with (first | ((with_reducible refine gate_store (t := 5) (p := 69) rfl ?_); (try (rw [drewN_self wr]; generalize hq_ : World.drewN wr _ = wr; have n0_ := Aside0.mk (Kd.R_at hq_ HO_61.out); have n1_ := Aside0.mk (blk_at hq_ BK215.out); have n2_ := Aside0.mk (blk_at hq_ BK216.out); have n3_ := Aside0.mk (blk_at hq_ BK217.out); have n4_ := Aside0.mk (below_at hq_ HB.out); clear hq_ HO_61 BK215 BK216 BK217 HB; have HO_61 := n0_; have BK215 := n1_; have BK216 := n2_; have BK217 := n3_; have HB := n4_; clear n0_ n1_ n2_ n3_ n4_; (try (have HP60 := Kd.R_putg HO_61.out (x64_2 : Int) 48)))); refine store_event (t := 5) (p := 69) (v := ?vo_w61) (w1 := (wr.setCell ⟨go59, (x64_2 : Int).toNat, none⟩ (.int .u8 48))) ?hg ?ho ?hn ?hr ?_; (case ho => rfl); (case hg => rfl); (case hn => rfl); (case hr => first | (go_simp; done) | (go_simp; rfl)); intro w61 hw; have hg : wr.grownBy w61 (some go59) := (by rw [hw]; exact HP60.2); have hp_ : Kd.R (Kd.int .u8) 5 w61 w.heap.size (fun _ => True) (.slice (some ⟨go59, 0, none⟩) x61_2.length co55) y227 := (by rw [hw, Ny227.out]; exact HP60.1); clear HP60; have n0_ := Aside0.mk (hp_); have n1_ := Aside0.mk (blk_grown (g := gb215) (o := .cells #[.string x216000_30, .int .i64 x216001_30] 28 (0, 0)) bk hg (Kd.R_ne HO_61.out BK215.out (by decide))); have n2_ := Aside0.mk (blk_grown (g := gb216) (o := .cells #[.string x217000_30, .int .i64 x217001_30] 28 (0, 0)) bk hg (Kd.R_ne HO_61.out BK216.out (by decide))); have n3_ := Aside0.mk (blk_grown (g := gb217) (o := .cells #[.string (⟨#[]⟩ : ByteArray), .int .i64 0] 28 (0, 0)) bk hg (Kd.R_ne HO_61.out BK217.out (by decide))); have n4_ := Aside0.mk ((by rw [hw]; exact below_set (HB.out) GB59.out : Below w.heap.size w w61)); clear HO_61; clear BK215; clear BK216; clear BK217; clear HB; have HO_61 := n0_; have BK215 := n1_; have BK216 := n2_; have BK217 := n3_; have HB := n4_; clear n0_ n1_ n2_ n3_ n4_; clear hg hw hp_))
             (try simp only [← hl61_2])
             go_roundg k2
             case measure => have := HJ30.out; have := HK2.out; omega
             case rel => exact ⟨(y227), (wrap64 (x64_2 + 1)), rz, H', ⟨by have := HJ30.out; have := HK2.out; omega⟩, ⟨by (try simp only [hl61_2]); (with_reducible repeat (first | apply Kd.R_alloc | apply Kd.R_drewN | apply Kd.R_drew)); exact HO_61.out⟩, ⟨by (try simp only [hl61_2]); (with_reducible repeat (first | refine blk_drewN ?_ _ | refine blk_drew ?_ | refine blk_alloc ?_ _)); exact BK215.out⟩, ⟨by (try simp only [hl61_2]); (with_reducible repeat (first | refine blk_drewN ?_ _ | refine blk_drew ?_ | refine blk_alloc ?_ _)); exact BK216.out⟩, ⟨by (try simp only [hl61_2]); (with_reducible repeat (first | refine blk_drewN ?_ _ | refine blk_drew ?_ | refine blk_alloc ?_ _)); exact BK217.out⟩, ⟨bz⟩⟩
            ·rw [if_neg c58] at H
             exact absurd H (by simp)
           ·rw [if_neg c57] at H
            exact absurd H (by simp)
          ·rw [if_neg c56] at H
           have c56b0 := decide_eq_false c56
           (try (have c56b9 := c56b0; (first | rw [hl61_2] at c56b9); skip))
           clear c56
           have HC62 := Aside0.mk H
           clear H
           go_upto_region 17 with (fail)
           go_cut [] (fun wc => ∃ (kq : Nat) (x8_61 : List Int), Aside0 (bigdec_Add.j2 kq x8_61 x216000_30 x216001_30 x217000_30 x217001_30 = some (r1, r2, r3)) ∧ Aside0 (kq ≤ k2) ∧ Aside0 (Kd.R (Kd.int .u8) 5 wc w.heap.size (fun _ => True) (.slice Ao55 x61_2.length co55) x8_61) ∧ Aside0 (wc.heap[gb215]? = some (.cells #[.string x216000_30, .int .i64 x216001_30] 28 (0, 0))) ∧ Aside0 (wc.heap[gb216]? = some (.cells #[.string x217000_30, .int .i64 x217001_30] 28 (0, 0))) ∧ Aside0 (wc.heap[gb217]? = some (.cells #[.string (⟨#[]⟩ : ByteArray), .int .i64 0] 28 (0, 0))) ∧ Aside0 (Below w.heap.size w wc))
           case first =>
            have H := HC62.out
            clear HC62
            by_cases c63 : 1 ≤ (x61_2.length : Int)
            ·rw [if_pos c63] at H
             have c63b0 := eq_true c63
             have c63b1 : decide (1 ≤ (x61_2.length : Int)) = true := decide_eq_true c63
             clear c63
             obtain ⟨y228, hy228⟩ : ∃ y_ : List Int, y_ = (x61_2.drop 1) := ⟨_, rfl⟩
             replace H : (if 2 ≤ (x61_2.length : Int) then (if x216000_30.size + 1 ≤ x61_2.length then (bigdec_Add.j2 k2 (cpyAt x61_2 1 x216000_30) x216000_30 x216001_30 x217000_30 x217001_30) else (none)) else (none)) = some (r1, r2, r3) := by first | (rw [hy228]; with_reducible exact H) | (have H2_ := (Option.bind_some _ _).symm.trans H; rw [hy228]; with_reducible exact H2_) | (have H2_ := (Option.bind_some _ _).symm.trans H; with_reducible exact H2_) | with_reducible exact H | (rw [hy228]; exact H) | exact H
             have Ny228 := Aside0.mk hy228
             clear hy228
             by_cases c64 : 2 ≤ (x61_2.length : Int)
             ·rw [if_pos c64] at H
              have c64b0 := eq_true c64
              have c64b1 : decide (2 ≤ (x61_2.length : Int)) = true := decide_eq_true c64
              clear c64
              by_cases c65 : x216000_30.size + 1 ≤ x61_2.length
              ·rw [if_pos c65] at H
               have c65b0 := eq_true c65
               have c65b1 : decide (x216000_30.size + 1 ≤ x61_2.length) = true := decide_eq_true c65
               obtain ⟨y232, hy232⟩ : ∃ y_ : List Int, y_ = (cpyAt x61_2 1 x216000_30) := ⟨_, rfl⟩
               replace H : (bigdec_Add.j2 k2 y232 x216000_30 x216001_30 x217000_30 x217001_30) = some (r1, r2, r3) := by first | (rw [hy232]; with_reducible exact H) | (have H2_ := (Option.bind_some _ _).symm.trans H; rw [hy232]; with_reducible exact H2_) | (have H2_ := (Option.bind_some _ _).symm.trans H; with_reducible exact H2_) | with_reducible exact H | (rw [hy232]; exact H) | exact H
               have Ny232 := Aside0.mk hy232
               clear hy232
               have H' := Aside0.mk H
               clear H
               have q67 : (1 : Int) ≤ ((x61_2.length : Int) : Int) := of_decide_eq_true (by first | (with_reducible assumption) | assumption)
               obtain ⟨i067, hi067, _, hsz67, _⟩ := info_parts info5
               have hroom67 : x61_2.length ≤ co55 := (Kd.R_reads' HO_61.out).2.1
               have hC67 : Kd.C (Kd.int .u8) _ Ao55 x61_2.length x61_2 := (Kd.R_reads' HO_61.out).2.2
               have hcut67 := cut_from (P := Tryd.prog) 48 5 .i64 Tryd.underlying48 hi067 1 hsz67 Ao55 x61_2.length co55 1 (by omega) q67
               have hr67 := Kd.C_drop (m := (1 : Int).toNat) (c := co55) hC67 (by omega) hroom67
               obtain ⟨A67, hA67⟩ : ∃ A1, A1 = (if co55 = (1 : Int).toNat then Ao55 else (Ao55 : Option Addr).map (·.add ((1 : Int).toNat * 1))) := ⟨_, rfl⟩
               obtain ⟨c67, hc67⟩ : ∃ c1, c1 = co55 - (1 : Int).toNat := ⟨_, rfl⟩
               have hy67 : y228.length = x61_2.length - (1 : Int).toNat := (by rw [Ny228.out, List.length_drop] <;> omega)
               rw [show (x61_2).drop (1 : Int).toNat = y228 from Ny228.out.symm] at hr67
               replace hr67 : Kd.C (Kd.int .u8) _ A67 y228.length y228 := (by rw [hA67]; exact hr67)
               rw [← hy67, ← hA67, ← hc67] at hcut67
               have HR231 := Aside0.mk hr67
               have HC231 := Aside0.mk (show y228.length ≤ c67 from by rw [hy67, hc67]; exact Nat.sub_le_sub_right hroom67 _)
               clear hr67 hC67 hroom67 hi067 hsz67 hc67
               have KY67 := Aside0.mk hy67
               have KA67 := Aside0.mk hA67
               clear hy67 hA67
               have KL67 := Aside0.mk (show 1 ≤ x61_2.length from by omega)
               replace q67 := eq_true q67
               have hnb68 := NB215_216.out
               have hnc68 := NB216_215.out
               have hnb69 := NB215_217.out
               have hnc69 := NB217_215.out
               obtain ⟨hcz70_0, hcz70_1, hfz70_0, hfz70_1⟩ := cz2 (W := wr) BK215
               have p66 : 0 ≤ (0 : Int) := (by omega)
               have q66 : (0 : Int) < ((x61_2.length : Int) : Int) := of_decide_eq_true (by first | (with_reducible assumption) | assumption)
               have qi66 : (0 < x61_2.length) = True := eq_true (by omega)
               obtain ⟨go66, co66, eo66, gb66, gl66, cl66, HG66⟩ := Kd.R_form HO_61.out (by omega)
               (first | cases eo66 | (injection eo66 with ea_ en_ ec_; (first | subst ea_ | (injection ea_ with ea_; subst ea_)); subst ec_; clear en_))
               have GB66 := Aside0.mk gb66
               have GG66 := Aside0.mk HG66
               clear gb66 gl66 HG66
               obtain ⟨hx66_0, hf66_0⟩ := Kd.R_celln 0 HO_61.out (0 : Int) p66 q66
               (try rw [show ((0 : Int)).toNat = 0 from rfl] at hx66_0)
               (try simp only [Nat.reduceMul, Nat.zero_mul, Nat.zero_add, Nat.reduceAdd] at hx66_0)
               (try rw [show ((0 : Int)).toNat = 0 from rfl] at hf66_0)
               (try simp only [Nat.reduceMul, Nat.zero_mul, Nat.zero_add, Nat.reduceAdd] at hf66_0)
               replace p66 := eq_true p66
               replace q66 := eq_true q66
               have HP71 := Kd.R_putg HO_61.out (0 : Int) 0
               have h2_ : 2 ≤ x61_2.length := by have h_ : (2 : Int) ≤ (x61_2.length : Int) := of_decide_eq_true (by assumption); omega
               have hfit_ : x216000_30.size + 1 ≤ x61_2.length := of_decide_eq_true (by assumption)
               have hA1_ : A67 = some ⟨go66, 1, none⟩ := by
                have h_ := KA67.out
                have hc_ := (Kd.R_reads' HO_61.out).2.1
                rw [if_neg (by simp; omega)] at h_
                rw [h_]; rfl
               have hyl_ := KY67.out
               have HA1_ := Aside0.mk hA1_
               clear hA1_
               have Hfit_ := Aside0.mk hfit_
               have Hyl_ := Aside0.mk hyl_
               clear hyl_ hfit_
               go_region_law ((try (rw [drewN_self wr]; generalize hq_ : World.drewN wr _ = wr; have n0_ := Aside0.mk (Kd.R_at hq_ HO_61.out); have n1_ := Aside0.mk (blk_at hq_ BK215.out); have n2_ := Aside0.mk (blk_at hq_ BK216.out); have n3_ := Aside0.mk (blk_at hq_ BK217.out); have n4_ := Aside0.mk (below_at hq_ HB.out); clear hq_ HO_61 BK215 BK216 BK217 HB; have HO_61 := n0_; have BK215 := n1_; have BK216 := n2_; have BK217 := n3_; have HB := n4_; clear n0_ n1_ n2_ n3_ n4_)); refine step_copyAt (w0 := w) rfl _ _ _ _ rfl 5 Tryd.underlying48 (by kernel_rfl) (g := go66) rfl HA1_.out x216000_30 rfl (by have h1_ := Hyl_.out; have h2_ := Hfit_.out; rw [h1_]; simp; omega) Hfit_.out HO_61.out bz ?_; intro w72 ho_ hg hb_; have hp_ : Kd.R (Kd.int .u8) 5 w72 w.heap.size (fun _ => True) (.slice (some ⟨go66, 0, none⟩) x61_2.length co55) y232 := (by rw [Ny232.out]; exact ho_); clear ho_; have n0_ := Aside0.mk (hp_); have n1_ := Aside0.mk (blk_grown (g := gb215) (o := .cells #[.string x216000_30, .int .i64 x216001_30] 28 (0, 0)) bk hg (Kd.R_ne HO_61.out BK215.out (by decide))); have n2_ := Aside0.mk (blk_grown (g := gb216) (o := .cells #[.string x217000_30, .int .i64 x217001_30] 28 (0, 0)) bk hg (Kd.R_ne HO_61.out BK216.out (by decide))); have n3_ := Aside0.mk (blk_grown (g := gb217) (o := .cells #[.string (⟨#[]⟩ : ByteArray), .int .i64 0] 28 (0, 0)) bk hg (Kd.R_ne HO_61.out BK217.out (by decide))); have n4_ := Aside0.mk ((hb_ : Below w.heap.size w w72)); clear HO_61; clear BK215; clear BK216; clear BK217; clear HB; have HO_61 := n0_; have BK215 := n1_; have BK216 := n2_; have BK217 := n3_; have HB := n4_; clear n0_ n1_ n2_ n3_ n4_; clear hg hb_ hp_)
               all_goals (try go_wp2)
               go_meet
               case rel => exact ⟨_, (y232), H', ⟨by have := HJ30.out; have := HK2.out; first | omega | exact Nat.le_refl _⟩, ⟨by (try simp only [hl61_2]); (with_reducible repeat (first | apply Kd.R_alloc | apply Kd.R_drewN | apply Kd.R_drew)); exact HO_61.out⟩, ⟨by (try simp only [hl61_2]); (with_reducible repeat (first | refine blk_drewN ?_ _ | refine blk_drew ?_ | refine blk_alloc ?_ _)); exact BK215.out⟩, ⟨by (try simp only [hl61_2]); (with_reducible repeat (first | refine blk_drewN ?_ _ | refine blk_drew ?_ | refine blk_alloc ?_ _)); exact BK216.out⟩, ⟨by (try simp only [hl61_2]); (with_reducible repeat (first | refine blk_drewN ?_ _ | refine blk_drew ?_ | refine blk_alloc ?_ _)); exact BK217.out⟩, ⟨bz⟩⟩
              ·rw [if_neg c65] at H
               exact absurd H (by simp)
             ·rw [if_neg c64] at H
              exact absurd H (by simp)
            ·rw [if_neg c63] at H
             exact absurd H (by simp)
           case rest =>
            clear HC62
            try clear c1
            try clear c15
            try clear c15b0
            try clear c15b1
            try clear c16
            try clear c16b0
            try clear c16b1
            try clear c23
            try clear c23b0
            try clear c23b1
            try clear c38
            try clear c38b0
            try clear c46
            try clear c46b0
            try clear c46b1
            try clear c47
            try clear c47b0
            try clear c47b1
            try clear c56
            try clear c56b0
            try clear c57
            try clear c57b0
            try clear c58
            try clear c58b0
            try clear p59
            try clear q59
            try clear c63
            try clear c63b0
            try clear c63b1
            try clear c64
            try clear c64b0
            try clear c64b1
            try clear c65
            try clear c65b0
            try clear c65b1
            try clear p66
            try clear q66
            try clear qi66
            try clear c67
            try clear q67
            try clear hcz11_0 hcz11_1 hfz11_0 hfz11_1
            try clear hcz13_0 hcz13_1 hfz13_0 hfz13_1
            try clear hcz14_0 hcz14_1 hfz14_0 hfz14_1
            try clear hcz19_0 hcz19_1 hfz19_0 hfz19_1
            try clear hcz21_0 hcz21_1 hfz21_0 hfz21_1
            try clear hcz22_0 hcz22_1 hfz22_0 hfz22_1
            try clear hcz26_0 hcz26_1 hfz26_0 hfz26_1
            try clear hcz28_0 hcz28_1 hfz28_0 hfz28_1
            try clear hcz29_0 hcz29_1 hfz29_0 hfz29_1
            try clear hcz34_0 hcz34_1 hfz34_0 hfz34_1
            try clear hcz36_0 hcz36_1 hfz36_0 hfz36_1
            try clear hcz41_0 hcz41_1 hfz41_0 hfz41_1
            try clear hcz43_0 hcz43_1 hfz43_0 hfz43_1
            try clear hcz50_0 hcz50_1 hfz50_0 hfz50_1
            try clear hcz52_0 hcz52_1 hfz52_0 hfz52_1
            try clear hcz70_0 hcz70_1 hfz70_0 hfz70_1
            try clear hcz9_0 hcz9_1 hfz9_0 hfz9_1
            try clear hx59_0
            try clear hx66_0
            try clear p59
            try clear p66
            try clear q59
            try clear q66
            try clear q67
            obtain ⟨kq, x8_61, HA, HJ61, HO_8, BK215, BK216, BK217, HB⟩ := hcut
            have hl8_61 := (Kd.R_reads' HO_8.out).1
            rw [hl8_61] at HO_8
            (try simp only [hl8_61])
            (try simp only [hl8_61] at BK215)
            (try simp only [hl8_61] at BK216)
            (try simp only [hl8_61] at BK217)
            cases kq with
            | zero => exact absurd HA.out (by simp [bigdec_Add.j2])
            | succ kj61 =>
             have H := HA.out
             clear HA
             simp only [bigdec_Add.j2] at H
             have H' := Aside0.mk H
             clear H
             go_wp2
             go_loopg [10, 11] kj61 (fun kq v10 v11 w' => ∃ (x8_4 : List Int) (x10_4 : Int) (x11_4 : Int), v10 = .int .u8 x10_4 ∧ v11 = .int .i64 x11_4 ∧ Aside0 (bigdec_Add.l1 kq x8_4 x10_4 x11_4 x216000_30 x216001_30 x217000_30 x217001_30 = some (r1, r2, r3)) ∧ Aside0 (kq ≤ kj61) ∧ Aside0 (Kd.R (Kd.int .u8) 5 w' w.heap.size (fun _ => True) (.slice Ao55 x8_61.length co55) x8_4) ∧ Aside0 (w'.heap[gb215]? = some (.cells #[.string x216000_30, .int .i64 x216001_30] 28 (0, 0))) ∧ Aside0 (w'.heap[gb216]? = some (.cells #[.string x217000_30, .int .i64 x217001_30] 28 (0, 0))) ∧ Aside0 (w'.heap[gb217]? = some (.cells #[.string (⟨#[]⟩ : ByteArray), .int .i64 0] 28 (0, 0))) ∧ Aside0 (Below w.heap.size w w'))
             case atStart => exact ⟨(x8_61), (0), (wrap64 ((x8_61.length : Int) - 1)), rz, rz, H', ⟨Nat.le_refl _⟩, ⟨by (try simp only [hl61_2]); (try simp only [hl8_61]); (with_reducible repeat (first | apply Kd.R_alloc | apply Kd.R_drewN | apply Kd.R_drew)); exact HO_8.out⟩, ⟨by (try simp only [hl61_2]); (try simp only [hl8_61]); (with_reducible repeat (first | refine blk_drewN ?_ _ | refine blk_drew ?_ | refine blk_alloc ?_ _)); exact BK215.out⟩, ⟨by (try simp only [hl61_2]); (try simp only [hl8_61]); (with_reducible repeat (first | refine blk_drewN ?_ _ | refine blk_drew ?_ | refine blk_alloc ?_ _)); exact BK216.out⟩, ⟨by (try simp only [hl61_2]); (try simp only [hl8_61]); (with_reducible repeat (first | refine blk_drewN ?_ _ | refine blk_drew ?_ | refine blk_alloc ?_ _)); exact BK217.out⟩, ⟨bz⟩⟩
             case round =>
              clear H'
              try clear c1
              try clear c15
              try clear c15b0
              try clear c15b1
              try clear c16
              try clear c16b0
              try clear c16b1
              try clear c23
              try clear c23b0
              try clear c23b1
              try clear c38
              try clear c38b0
              try clear c46
              try clear c46b0
              try clear c46b1
              try clear c47
              try clear c47b0
              try clear c47b1
              try clear c56
              try clear c56b0
              try clear c57
              try clear c57b0
              try clear c58
              try clear c58b0
              try clear p59
              try clear q59
              try clear c63
              try clear c63b0
              try clear c63b1
              try clear c64
              try clear c64b0
              try clear c64b1
              try clear c65
              try clear c65b0
              try clear c65b1
              try clear p66
              try clear q66
              try clear qi66
              try clear c67
              try clear q67
              try clear hcz11_0 hcz11_1 hfz11_0 hfz11_1
              try clear hcz13_0 hcz13_1 hfz13_0 hfz13_1
              try clear hcz14_0 hcz14_1 hfz14_0 hfz14_1
              try clear hcz19_0 hcz19_1 hfz19_0 hfz19_1
              try clear hcz21_0 hcz21_1 hfz21_0 hfz21_1
              try clear hcz22_0 hcz22_1 hfz22_0 hfz22_1
              try clear hcz26_0 hcz26_1 hfz26_0 hfz26_1
              try clear hcz28_0 hcz28_1 hfz28_0 hfz28_1
              try clear hcz29_0 hcz29_1 hfz29_0 hfz29_1
              try clear hcz34_0 hcz34_1 hfz34_0 hfz34_1
              try clear hcz36_0 hcz36_1 hfz36_0 hfz36_1
              try clear hcz41_0 hcz41_1 hfz41_0 hfz41_1
              try clear hcz43_0 hcz43_1 hfz43_0 hfz43_1
              try clear hcz50_0 hcz50_1 hfz50_0 hfz50_1
              try clear hcz52_0 hcz52_1 hfz52_0 hfz52_1
              try clear hcz70_0 hcz70_1 hfz70_0 hfz70_1
              try clear hcz9_0 hcz9_1 hfz9_0 hfz9_1
              try clear hx59_0
              try clear hx66_0
              try clear p59
              try clear p66
              try clear q59
              try clear q66
              try clear q67
              obtain ⟨x8_4, x10_4, x11_4, rfl, rfl, HA, HK4, HO_8, BK215, BK216, BK217, HB⟩ := hrel
              have hl8_4 := (Kd.R_reads' HO_8.out).1
              rw [hl8_4] at HO_8
              (try simp only [hl8_4])
              (try simp only [hl8_4] at BK215)
              (try simp only [hl8_4] at BK216)
              (try simp only [hl8_4] at BK217)
              cases gk with
              | zero => exact absurd HA.out (by simp [bigdec_Add.l1])
              | succ k4 =>
               have H := HA.out
               clear HA
               simp only [bigdec_Add.l1] at H
               by_cases c73 : x11_4 ≥ 0
               ·rw [if_pos c73] at H
                have c73b0 : decide (0 ≤ x11_4) = true := decide_eq_true c73
                clear c73
                by_cases c74 : 0 ≤ x11_4
                ·rw [if_pos c74] at H
                 have c74b0 := decide_eq_true c74
                 clear c74
                 by_cases c75 : x11_4 < (x8_4.length : Int)
                 ·rw [if_pos c75] at H
                  have c75b0 := decide_eq_true c75
                  (try (have c75b9 := c75b0; (first | rw [hl8_4] at c75b9 | rw [hl8_61] at c75b9 | rw [hl61_2] at c75b9); skip))
                  clear c75
                  by_cases c76 : (wrap64 ((wrap64 (x11_4 - 1)) - (wrap64 (x216001_30 - x217001_30)))) ≥ 0
                  ·rw [if_pos c76] at H
                   have c76b0 : decide (0 ≤ (wrap64 ((wrap64 (x11_4 - 1)) - (wrap64 (x216001_30 - x217001_30))))) = true := decide_eq_true c76
                   clear c76
                   by_cases c77 : (wrap64 ((wrap64 (x11_4 - 1)) - (wrap64 (x216001_30 - x217001_30)))) < (x217000_30.size : Int)
                   ·rw [if_pos c77] at H
                    have c77b0 := decide_eq_true c77
                    clear c77
                    obtain ⟨ji78, hji78⟩ : ∃ j_ : Int, (wrap64 ((wrap64 (x11_4 - 1)) - (wrap64 (x216001_30 - x217001_30)))) = j_ := ⟨_, rfl⟩
                    (first | rw [hji78] at H | simp only [hji78] at H)
                    (try rw [hji78] at c76b0)
                    (try rw [hji78] at c77b0)
                    have hji78w : (IntKind.i64.wrap ((wrap64 (x11_4 - 1)) - (wrap64 (x216001_30 - x217001_30)))) = ji78 := (i64_w _).trans hji78
                    by_cases c79 : 0 ≤ (ji78)
                    ·rw [if_pos c79] at H
                     have c79b0 := decide_eq_true c79
                     clear c79
                     obtain ⟨y234, hy234⟩ : ∃ y_ : List Int, y_ = (x8_4.set (x11_4 : Int).toNat (48 + ((((((((rd x8_4 x11_4) - 48) % 256) + x10_4) % 256) + (((bt x217000_30 (ji78)) - 48) % 256)) % 256) % 10))) := ⟨_, rfl⟩
                     replace H : (bigdec_Add.l1 k4 y234 ((((((((rd x8_4 x11_4) - 48) % 256) + x10_4) % 256) + (((bt x217000_30 (ji78)) - 48) % 256)) % 256) / 10) (wrap64 (x11_4 - 1)) x216000_30 x216001_30 x217000_30 x217001_30) = some (r1, r2, r3) := by first | (rw [hy234]; with_reducible exact H) | (have H2_ := (Option.bind_some _ _).symm.trans H; rw [hy234]; with_reducible exact H2_) | (have H2_ := (Option.bind_some _ _).symm.trans H; with_reducible exact H2_) | with_reducible exact H | (rw [hy234]; exact H) | exact H
                     have Ny234 := Aside0.mk hy234
                     clear hy234
                     have H' := Aside0.mk H
                     clear H
                     have p233 : 0 ≤ (x11_4 : Int) := of_decide_eq_true (by first | (with_reducible assumption) | assumption)
                     have q233 : x11_4 < (x8_4.length : Int) := of_decide_eq_true (by first | (with_reducible assumption) | assumption)
                     obtain ⟨ad233, e233, hx233_0⟩ := Kd.at_int (Kd.R_reads' HO_8.out).2.2 x11_4 p233 q233
                     cases e233
                     replace p233 := eq_true p233
                     replace q233 := eq_true q233
                     have hnb82 := NB215_216.out
                     have hnc82 := NB216_215.out
                     have hnb83 := NB215_217.out
                     have hnc83 := NB217_215.out
                     obtain ⟨hcz84_0, hcz84_1, hfz84_0, hfz84_1⟩ := cz2 (W := wr) BK215
                     have hnb85 := NB216_217.out
                     have hnc85 := NB217_216.out
                     obtain ⟨hcz86_0, hcz86_1, hfz86_0, hfz86_1⟩ := cz2 (W := wr) BK216
                     have p80 : 0 ≤ ((ji78) : Int) := of_decide_eq_true (by first | (with_reducible assumption) | assumption)
                     have q80 : (ji78) < (x217000_30.size : Int) := of_decide_eq_true (by first | (with_reducible assumption) | assumption)
                     have hx80 := bt_at x217000_30 (ji78)
                     replace p80 := eq_true p80
                     replace q80 := eq_true q80
                     have p81 : 0 ≤ (x11_4 : Int) := of_decide_eq_true (by first | (with_reducible assumption) | assumption)
                     have q81 : (x11_4 : Int) < ((x8_4.length : Int) : Int) := of_decide_eq_true (by first | (with_reducible assumption) | assumption)
                     obtain ⟨go81, co81, eo81, gb81, gl81, cl81, HG81⟩ := Kd.R_form HO_8.out (by omega)
                     (first | cases eo81 | (injection eo81 with ea_ en_ ec_; (first | subst ea_ | (injection ea_ with ea_; subst ea_)); subst ec_; clear en_))
                     have GB81 := Aside0.mk gb81
                     have GG81 := Aside0.mk HG81
                     clear gb81 gl81 HG81
                     (first | simp only [add_plain] at hx233_0 | skip)
                     obtain ⟨hx81_0, hf81_0⟩ := Kd.R_celln 0 HO_8.out (x11_4 : Int) p81 q81
                     replace p81 := eq_true p81
                     replace q81 := eq_true q81
                     have HP87 := Kd.R_putg HO_8.out (x11_4 : Int) (48 + ((((((((rd x8_4 x11_4) - 48) % 256) + x10_4) % 256) + (((bt x217000_30 (ji78)) - 48) % 256)) % 256) % 10))
                     go_wp2_with (first | ((with_reducible refine gate_store (t := 5) (p := 121) rfl ?_); (try (rw [drewN_self wr]; generalize hq_ : World.drewN wr _ = wr; have n0_ := Aside0.mk (Kd.R_at hq_ HO_8.out); have n1_ := Aside0.mk (blk_at hq_ BK215.out); have n2_ := Aside0.mk (blk_at hq_ BK216.out); have n3_ := Aside0.mk (blk_at hq_ BK217.out); have n4_ := Aside0.mk (below_at hq_ HB.out); clear hq_ HO_8 BK215 BK216 BK217 HB; have HO_8 := n0_; have BK215 := n1_; have BK216 := n2_; have BK217 := n3_; have HB := n4_; clear n0_ n1_ n2_ n3_ n4_; (try (have HP87 := Kd.R_putg HO_8.out (x11_4 : Int) (48 + ((((((((rd x8_4 x11_4) - 48) % 256) + x10_4) % 256) + (((bt x217000_30 (ji78)) - 48) % 256)) % 256) % 10)))))); refine store_event (t := 5) (p := 121) (v := ?vo_w88) (w1 := (wr.setCell ⟨go81, (x11_4 : Int).toNat, none⟩ (.int .u8 (48 + ((((((((rd x8_4 x11_4) - 48) % 256) + x10_4) % 256) + (((bt x217000_30 (ji78)) - 48) % 256)) % 256) % 10))))) ?hg ?ho ?hn ?hr ?_; (case ho => rfl); (case hg => rfl); (case hn => rfl); (case hr => first | (go_simp; done) | (go_simp; rfl)); intro w88 hw; have hg : wr.grownBy w88 (some go81) := (by rw [hw]; exact HP87.2); have hp_ : Kd.R (Kd.int .u8) 5 w88 w.heap.size (fun _ => True) (.slice (some ⟨go81, 0, none⟩) x8_4.length co55) y234 := (by rw [hw, Ny234.out]; exact HP87.1); clear HP87; have n0_ := Aside0.mk (hp_); have n1_ := Aside0.mk (blk_grown (g := gb215) (o := .cells #[.string x216000_30, .int .i64 x216001_30] 28 (0, 0)) bk hg (Kd.R_ne HO_8.out BK215.out (by decide))); have n2_ := Aside0.mk (blk_grown (g := gb216) (o := .cells #[.string x217000_30, .int .i64 x217001_30] 28 (0, 0)) bk hg (Kd.R_ne HO_8.out BK216.out (by decide))); have n3_ := Aside0.mk (blk_grown (g := gb217) (o := .cells #[.string (⟨#[]⟩ : ByteArray), .int .i64 0] 28 (0, 0)) bk hg (Kd.R_ne HO_8.out BK217.out (by decide))); have n4_ := Aside0.mk ((by rw [hw]; exact below_set (HB.out) GB81.out : Below w.heap.size w w88)); clear HO_8; clear BK215; clear BK216; clear BK217; clear HB; have HO_8 := n0_; have BK215 := n1_; have BK216 := n2_; have BK217 := n3_; have HB := n4_; clear n0_ n1_ n2_ n3_ n4_; clear hg hw hp_))
                     (try simp only [← hl8_4])
                     go_roundg k4
                     case measure => have := HJ30.out; have := HK2.out; have := HJ61.out; have := HK4.out; omega
                     case rel => exact ⟨(y234), ((((((((rd x8_4 x11_4) - 48) % 256) + x10_4) % 256) + (((bt x217000_30 (ji78)) - 48) % 256)) % 256) / 10), (wrap64 (x11_4 - 1)), (by first | rfl | (simp; done) | (simp only [← hji78] <;> (first | rfl | simp)) | (simp [*]; done)), rz, H', ⟨by have := HJ30.out; have := HK2.out; have := HJ61.out; have := HK4.out; omega⟩, ⟨by (try simp only [hl61_2]); (try simp only [hl8_61]); (try simp only [hl8_4]); (with_reducible repeat (first | apply Kd.R_alloc | apply Kd.R_drewN | apply Kd.R_drew)); exact HO_8.out⟩, ⟨by (try simp only [hl61_2]); (try simp only [hl8_61]); (try simp only [hl8_4]); (with_reducible repeat (first | refine blk_drewN ?_ _ | refine blk_drew ?_ | refine blk_alloc ?_ _)); exact BK215.out⟩, ⟨by (try simp only [hl61_2]); (try simp only [hl8_61]); (try simp only [hl8_4]); (with_reducible repeat (first | refine blk_drewN ?_ _ | refine blk_drew ?_ | refine blk_alloc ?_ _)); exact BK216.out⟩, ⟨by (try simp only [hl61_2]); (try simp only [hl8_61]); (try simp only [hl8_4]); (with_reducible repeat (first | refine blk_drewN ?_ _ | refine blk_drew ?_ | refine blk_alloc ?_ _)); exact BK217.out⟩, ⟨bz⟩⟩
                    ·rw [if_neg c79] at H
                     exact absurd H (by simp)
                   ·rw [if_neg c77] at H
                    have c77b0 := decide_eq_false c77
                    clear c77
                    obtain ⟨y235, hy235⟩ : ∃ y_ : List Int, y_ = (x8_4.set (x11_4 : Int).toNat (48 + ((((((rd x8_4 x11_4) - 48) % 256) + x10_4) % 256) % 10))) := ⟨_, rfl⟩
                    replace H : (bigdec_Add.l1 k4 y235 ((((((rd x8_4 x11_4) - 48) % 256) + x10_4) % 256) / 10) (wrap64 (x11_4 - 1)) x216000_30 x216001_30 x217000_30 x217001_30) = some (r1, r2, r3) := by first | (rw [hy235]; with_reducible exact H) | (have H2_ := (Option.bind_some _ _).symm.trans H; rw [hy235]; with_reducible exact H2_) | (have H2_ := (Option.bind_some _ _).symm.trans H; with_reducible exact H2_) | with_reducible exact H | (rw [hy235]; exact H) | exact H
                    have Ny235 := Aside0.mk hy235
                    clear hy235
                    have H' := Aside0.mk H
                    clear H
                    have p233 : 0 ≤ (x11_4 : Int) := of_decide_eq_true (by first | (with_reducible assumption) | assumption)
                    have q233 : x11_4 < (x8_4.length : Int) := of_decide_eq_true (by first | (with_reducible assumption) | assumption)
                    obtain ⟨ad233, e233, hx233_0⟩ := Kd.at_int (Kd.R_reads' HO_8.out).2.2 x11_4 p233 q233
                    cases e233
                    replace p233 := eq_true p233
                    replace q233 := eq_true q233
                    have hnb90 := NB215_216.out
                    have hnc90 := NB216_215.out
                    have hnb91 := NB215_217.out
                    have hnc91 := NB217_215.out
                    obtain ⟨hcz92_0, hcz92_1, hfz92_0, hfz92_1⟩ := cz2 (W := wr) BK215
                    have hnb93 := NB216_217.out
                    have hnc93 := NB217_216.out
                    obtain ⟨hcz94_0, hcz94_1, hfz94_0, hfz94_1⟩ := cz2 (W := wr) BK216
                    have p89 : 0 ≤ (x11_4 : Int) := of_decide_eq_true (by first | (with_reducible assumption) | assumption)
                    have q89 : (x11_4 : Int) < ((x8_4.length : Int) : Int) := of_decide_eq_true (by first | (with_reducible assumption) | assumption)
                    obtain ⟨go89, co89, eo89, gb89, gl89, cl89, HG89⟩ := Kd.R_form HO_8.out (by omega)
                    (first | cases eo89 | (injection eo89 with ea_ en_ ec_; (first | subst ea_ | (injection ea_ with ea_; subst ea_)); subst ec_; clear en_))
                    have GB89 := Aside0.mk gb89
                    have GG89 := Aside0.mk HG89
                    clear gb89 gl89 HG89
                    (first | simp only [add_plain] at hx233_0 | skip)
                    obtain ⟨hx89_0, hf89_0⟩ := Kd.R_celln 0 HO_8.out (x11_4 : Int) p89 q89
                    replace p89 := eq_true p89
                    replace q89 := eq_true q89
                    have HP95 := Kd.R_putg HO_8.out (x11_4 : Int) (48 + ((((((rd x8_4 x11_4) - 48) % 256) + x10_4) % 256) % 10))
                    go_wp2_with (first | ((with_reducible refine gate_store (t := 5) (p := 121) rfl ?_); (try (rw [drewN_self wr]; generalize hq_ : World.drewN wr _ = wr; have n0_ := Aside0.mk (Kd.R_at hq_ HO_8.out); have n1_ := Aside0.mk (blk_at hq_ BK215.out); have n2_ := Aside0.mk (blk_at hq_ BK216.out); have n3_ := Aside0.mk (blk_at hq_ BK217.out); have n4_ := Aside0.mk (below_at hq_ HB.out); clear hq_ HO_8 BK215 BK216 BK217 HB; have HO_8 := n0_; have BK215 := n1_; have BK216 := n2_; have BK217 := n3_; have HB := n4_; clear n0_ n1_ n2_ n3_ n4_; (try (have HP95 := Kd.R_putg HO_8.out (x11_4 : Int) (48 + ((((((rd x8_4 x11_4) - 48) % 256) + x10_4) % 256) % 10)))))); refine store_event (t := 5) (p := 121) (v := ?vo_w96) (w1 := (wr.setCell ⟨go89, (x11_4 : Int).toNat, none⟩ (.int .u8 (48 + ((((((rd x8_4 x11_4) - 48) % 256) + x10_4) % 256) % 10))))) ?hg ?ho ?hn ?hr ?_; (case ho => rfl); (case hg => rfl); (case hn => rfl); (case hr => first | (go_simp; done) | (go_simp; rfl)); intro w96 hw; have hg : wr.grownBy w96 (some go89) := (by rw [hw]; exact HP95.2); have hp_ : Kd.R (Kd.int .u8) 5 w96 w.heap.size (fun _ => True) (.slice (some ⟨go89, 0, none⟩) x8_4.length co55) y235 := (by rw [hw, Ny235.out]; exact HP95.1); clear HP95; have n0_ := Aside0.mk (hp_); have n1_ := Aside0.mk (blk_grown (g := gb215) (o := .cells #[.string x216000_30, .int .i64 x216001_30] 28 (0, 0)) bk hg (Kd.R_ne HO_8.out BK215.out (by decide))); have n2_ := Aside0.mk (blk_grown (g := gb216) (o := .cells #[.string x217000_30, .int .i64 x217001_30] 28 (0, 0)) bk hg (Kd.R_ne HO_8.out BK216.out (by decide))); have n3_ := Aside0.mk (blk_grown (g := gb217) (o := .cells #[.string (⟨#[]⟩ : ByteArray), .int .i64 0] 28 (0, 0)) bk hg (Kd.R_ne HO_8.out BK217.out (by decide))); have n4_ := Aside0.mk ((by rw [hw]; exact below_set (HB.out) GB89.out : Below w.heap.size w w96)); clear HO_8; clear BK215; clear BK216; clear BK217; clear HB; have HO_8 := n0_; have BK215 := n1_; have BK216 := n2_; have BK217 := n3_; have HB := n4_; clear n0_ n1_ n2_ n3_ n4_; clear hg hw hp_))
                    (try simp only [← hl8_4])
                    go_roundg k4
                    case measure => have := HJ30.out; have := HK2.out; have := HJ61.out; have := HK4.out; omega
                    case rel => exact ⟨(y235), ((((((rd x8_4 x11_4) - 48) % 256) + x10_4) % 256) / 10), (wrap64 (x11_4 - 1)), rz, rz, H', ⟨by have := HJ30.out; have := HK2.out; have := HJ61.out; have := HK4.out; omega⟩, ⟨by (try simp only [hl61_2]); (try simp only [hl8_61]); (try simp only [hl8_4]); (with_reducible repeat (first | apply Kd.R_alloc | apply Kd.R_drewN | apply Kd.R_drew)); exact HO_8.out⟩, ⟨by (try simp only [hl61_2]); (try simp only [hl8_61]); (try simp only [hl8_4]); (with_reducible repeat (first | refine blk_drewN ?_ _ | refine blk_drew ?_ | refine blk_alloc ?_ _)); exact BK215.out⟩, ⟨by (try simp only [hl61_2]); (try simp only [hl8_61]); (try simp only [hl8_4]); (with_reducible repeat (first | refine blk_drewN ?_ _ | refine blk_drew ?_ | refine blk_alloc ?_ _)); exact BK216.out⟩, ⟨by (try simp only [hl61_2]); (try simp only [hl8_61]); (try simp only [hl8_4]); (with_reducible repeat (first | refine blk_drewN ?_ _ | refine blk_drew ?_ | refine blk_alloc ?_ _)); exact BK217.out⟩, ⟨bz⟩⟩
                  ·rw [if_neg c76] at H
                   have c76b0 : decide (0 ≤ (wrap64 ((wrap64 (x11_4 - 1)) - (wrap64 (x216001_30 - x217001_30))))) = false := decide_eq_false c76
                   clear c76
                   obtain ⟨y236, hy236⟩ : ∃ y_ : List Int, y_ = (x8_4.set (x11_4 : Int).toNat (48 + ((((((rd x8_4 x11_4) - 48) % 256) + x10_4) % 256) % 10))) := ⟨_, rfl⟩
                   replace H : (bigdec_Add.l1 k4 y236 ((((((rd x8_4 x11_4) - 48) % 256) + x10_4) % 256) / 10) (wrap64 (x11_4 - 1)) x216000_30 x216001_30 x217000_30 x217001_30) = some (r1, r2, r3) := by first | (rw [hy236]; with_reducible exact H) | (have H2_ := (Option.bind_some _ _).symm.trans H; rw [hy236]; with_reducible exact H2_) | (have H2_ := (Option.bind_some _ _).symm.trans H; with_reducible exact H2_) | with_reducible exact H | (rw [hy236]; exact H) | exact H
                   have Ny236 := Aside0.mk hy236
                   clear hy236
                   have H' := Aside0.mk H
                   clear H
                   have p233 : 0 ≤ (x11_4 : Int) := of_decide_eq_true (by first | (with_reducible assumption) | assumption)
                   have q233 : x11_4 < (x8_4.length : Int) := of_decide_eq_true (by first | (with_reducible assumption) | assumption)
                   obtain ⟨ad233, e233, hx233_0⟩ := Kd.at_int (Kd.R_reads' HO_8.out).2.2 x11_4 p233 q233
                   cases e233
                   replace p233 := eq_true p233
                   replace q233 := eq_true q233
                   have hnb98 := NB215_216.out
                   have hnc98 := NB216_215.out
                   have hnb99 := NB215_217.out
                   have hnc99 := NB217_215.out
                   obtain ⟨hcz100_0, hcz100_1, hfz100_0, hfz100_1⟩ := cz2 (W := wr) BK215
                   have hnb101 := NB216_217.out
                   have hnc101 := NB217_216.out
                   obtain ⟨hcz102_0, hcz102_1, hfz102_0, hfz102_1⟩ := cz2 (W := wr) BK216
                   have p97 : 0 ≤ (x11_4 : Int) := of_decide_eq_true (by first | (with_reducible assumption) | assumption)
                   have q97 : (x11_4 : Int) < ((x8_4.length : Int) : Int) := of_decide_eq_true (by first | (with_reducible assumption) | assumption)
                   obtain ⟨go97, co97, eo97, gb97, gl97, cl97, HG97⟩ := Kd.R_form HO_8.out (by omega)
                   (first | cases eo97 | (injection eo97 with ea_ en_ ec_; (first | subst ea_ | (injection ea_ with ea_; subst ea_)); subst ec_; clear en_))
                   have GB97 := Aside0.mk gb97
                   have GG97 := Aside0.mk HG97
                   clear gb97 gl97 HG97
                   (first | simp only [add_plain] at hx233_0 | skip)
                   obtain ⟨hx97_0, hf97_0⟩ := Kd.R_celln 0 HO_8.out (x11_4 : Int) p97 q97
                   replace p97 := eq_true p97
                   replace q97 := eq_true q97
                   have HP103 := Kd.R_putg HO_8.out (x11_4 : Int) (48 + ((((((rd x8_4 x11_4) - 48) % 256) + x10_4) % 256) % 10))
                   go_wp2_with (first | ((with_reducible refine gate_store (t := 5) (p := 121) rfl ?_); (try (rw [drewN_self wr]; generalize hq_ : World.drewN wr _ = wr; have n0_ := Aside0.mk (Kd.R_at hq_ HO_8.out); have n1_ := Aside0.mk (blk_at hq_ BK215.out); have n2_ := Aside0.mk (blk_at hq_ BK216.out); have n3_ := Aside0.mk (blk_at hq_ BK217.out); have n4_ := Aside0.mk (below_at hq_ HB.out); clear hq_ HO_8 BK215 BK216 BK217 HB; have HO_8 := n0_; have BK215 := n1_; have BK216 := n2_; have BK217 := n3_; have HB := n4_; clear n0_ n1_ n2_ n3_ n4_; (try (have HP103 := Kd.R_putg HO_8.out (x11_4 : Int) (48 + ((((((rd x8_4 x11_4) - 48) % 256) + x10_4) % 256) % 10)))))); refine store_event (t := 5) (p := 121) (v := ?vo_w104) (w1 := (wr.setCell ⟨go97, (x11_4 : Int).toNat, none⟩ (.int .u8 (48 + ((((((rd x8_4 x11_4) - 48) % 256) + x10_4) % 256) % 10))))) ?hg ?ho ?hn ?hr ?_; (case ho => rfl); (case hg => rfl); (case hn => rfl); (case hr => first | (go_simp; done) | (go_simp; rfl)); intro w104 hw; have hg : wr.grownBy w104 (some go97) := (by rw [hw]; exact HP103.2); have hp_ : Kd.R (Kd.int .u8) 5 w104 w.heap.size (fun _ => True) (.slice (some ⟨go97, 0, none⟩) x8_4.length co55) y236 := (by rw [hw, Ny236.out]; exact HP103.1); clear HP103; have n0_ := Aside0.mk (hp_); have n1_ := Aside0.mk (blk_grown (g := gb215) (o := .cells #[.string x216000_30, .int .i64 x216001_30] 28 (0, 0)) bk hg (Kd.R_ne HO_8.out BK215.out (by decide))); have n2_ := Aside0.mk (blk_grown (g := gb216) (o := .cells #[.string x217000_30, .int .i64 x217001_30] 28 (0, 0)) bk hg (Kd.R_ne HO_8.out BK216.out (by decide))); have n3_ := Aside0.mk (blk_grown (g := gb217) (o := .cells #[.string (⟨#[]⟩ : ByteArray), .int .i64 0] 28 (0, 0)) bk hg (Kd.R_ne HO_8.out BK217.out (by decide))); have n4_ := Aside0.mk ((by rw [hw]; exact below_set (HB.out) GB97.out : Below w.heap.size w w104)); clear HO_8; clear BK215; clear BK216; clear BK217; clear HB; have HO_8 := n0_; have BK215 := n1_; have BK216 := n2_; have BK217 := n3_; have HB := n4_; clear n0_ n1_ n2_ n3_ n4_; clear hg hw hp_))
                   (try simp only [← hl8_4])
                   go_roundg k4
                   case measure => have := HJ30.out; have := HK2.out; have := HJ61.out; have := HK4.out; omega
                   case rel => exact ⟨(y236), ((((((rd x8_4 x11_4) - 48) % 256) + x10_4) % 256) / 10), (wrap64 (x11_4 - 1)), rz, rz, H', ⟨by have := HJ30.out; have := HK2.out; have := HJ61.out; have := HK4.out; omega⟩, ⟨by (try simp only [hl61_2]); (try simp only [hl8_61]); (try simp only [hl8_4]); (with_reducible repeat (first | apply Kd.R_alloc | apply Kd.R_drewN | apply Kd.R_drew)); exact HO_8.out⟩, ⟨by (try simp only [hl61_2]); (try simp only [hl8_61]); (try simp only [hl8_4]); (with_reducible repeat (first | refine blk_drewN ?_ _ | refine blk_drew ?_ | refine blk_alloc ?_ _)); exact BK215.out⟩, ⟨by (try simp only [hl61_2]); (try simp only [hl8_61]); (try simp only [hl8_4]); (with_reducible repeat (first | refine blk_drewN ?_ _ | refine blk_drew ?_ | refine blk_alloc ?_ _)); exact BK216.out⟩, ⟨by (try simp only [hl61_2]); (try simp only [hl8_61]); (try simp only [hl8_4]); (with_reducible repeat (first | refine blk_drewN ?_ _ | refine blk_drew ?_ | refine blk_alloc ?_ _)); exact BK217.out⟩, ⟨bz⟩⟩
                 ·rw [if_neg c75] at H
                  exact absurd H (by simp)
                ·rw [if_neg c74] at H
                 exact absurd H (by simp)
               ·rw [if_neg c73] at H
                have c73b0 : decide (0 ≤ x11_4) = false := decide_eq_false c73
                clear c73
                replace H := bs H
                obtain ⟨⟨t237, t238⟩, A105, H⟩ := H
                dsimp only at H
                have hcv106 := own_string (P := Tryd.prog) Tryd.underlying48 Tryd.underlying5 Tryd.underlying9 (Kd.own_of_R HO_8.out)
                have hnb107 := NB215_216.out
                have hnc107 := NB216_215.out
                have hnb108 := NB215_217.out
                have hnc108 := NB217_215.out
                obtain ⟨hcz109_0, hcz109_1, hfz109_0, hfz109_1⟩ := cz2 (W := wr) BK215
                go_upto_if 132 with (first | (go_at_call 51; (with_reducible refine (bigdec_form.calls (strOfNums x8_4) (wrap64 (x216001_30 + 1)) t237 t238 _ A105.out).mono ?_); rintro e w110 ⟨rfl, hb⟩; have n0_ := Aside0.mk (Kd.R_below (by (with_reducible repeat (first | apply Kd.R_alloc | apply Kd.R_drewN | apply Kd.R_drew)); exact HO_8.out) hb); have n1_ := Aside0.mk (blk_below (g := gb215) (o := .cells #[.string x216000_30, .int .i64 x216001_30] 28 (0, 0)) bk hb); have n2_ := Aside0.mk (blk_below (g := gb216) (o := .cells #[.string x217000_30, .int .i64 x217001_30] 28 (0, 0)) bk hb); have n3_ := Aside0.mk (blk_below (g := gb217) (o := .cells #[.string (⟨#[]⟩ : ByteArray), .int .i64 0] 28 (0, 0)) bk hb); have n4_ := Aside0.mk (below_step bz hb); clear HO_8; clear BK215; clear BK216; clear BK217; clear HB; have HO_8 := n0_; have BK215 := n1_; have BK216 := n2_; have BK217 := n3_; have HB := n4_; clear n0_ n1_ n2_ n3_ n4_; (try clear hb); (try clear hb2); (try clear hk); (try clear hi)) | ((with_reducible refine gate_dst (N := 14) rfl ?_); (try (refine gate_guard (by rfl) ?_; dsimp only)); refine box_event rfl (N := 14) rfl (cs := #[.string (⟨#[]⟩ : ByteArray), .int .i64 0]) (t := 28) gz ?_; intro gb239 hg w111 hbox hb; have n0_ := Aside0.mk (Kd.R_below (by (with_reducible repeat (first | apply Kd.R_alloc | apply Kd.R_drewN | apply Kd.R_drew)); exact HO_8.out) hb); have n1_ := Aside0.mk (blk_below (g := gb215) (o := .cells #[.string x216000_30, .int .i64 x216001_30] 28 (0, 0)) bk hb); have n2_ := Aside0.mk (blk_below (g := gb216) (o := .cells #[.string x217000_30, .int .i64 x217001_30] 28 (0, 0)) bk hb); have n3_ := Aside0.mk (blk_below (g := gb217) (o := .cells #[.string (⟨#[]⟩ : ByteArray), .int .i64 0] 28 (0, 0)) bk hb); have n4_ := Aside0.mk (below_step bz hb); have n5_ := Aside0.mk (hbox); have n6_ := Aside0.mk ((by rw [hg]; exact (below_size bz) : w.heap.size ≤ gb239)); have n7_ := Aside0.mk ((by rw [hg]; exact (below_size bz) : w.heap.size ≤ gb239)); have n8_ := Aside0.mk ((by rw [hg]; exact Nat.ne_of_lt (blk_lt (g := gb215) (o := .cells #[.string x216000_30, .int .i64 x216001_30] 28 (0, 0)) bk) : gb215 ≠ gb239)); have n9_ := Aside0.mk ((by rw [hg]; exact Nat.ne_of_gt (blk_lt (g := gb215) (o := .cells #[.string x216000_30, .int .i64 x216001_30] 28 (0, 0)) bk) : gb239 ≠ gb215)); have n10_ := Aside0.mk ((by rw [hg]; exact Nat.ne_of_lt (blk_lt (g := gb216) (o := .cells #[.string x217000_30, .int .i64 x217001_30] 28 (0, 0)) bk) : gb216 ≠ gb239)); have n11_ := Aside0.mk ((by rw [hg]; exact Nat.ne_of_gt (blk_lt (g := gb216) (o := .cells #[.string x217000_30, .int .i64 x217001_30] 28 (0, 0)) bk) : gb239 ≠ gb216)); have n12_ := Aside0.mk ((by rw [hg]; exact Nat.ne_of_lt (blk_lt (g := gb217) (o := .cells #[.string (⟨#[]⟩ : ByteArray), .int .i64 0] 28 (0, 0)) bk) : gb217 ≠ gb239)); have n13_ := Aside0.mk ((by rw [hg]; exact Nat.ne_of_gt (blk_lt (g := gb217) (o := .cells #[.string (⟨#[]⟩ : ByteArray), .int .i64 0] 28 (0, 0)) bk) : gb239 ≠ gb217)); clear HO_8; clear BK215; clear BK216; clear BK217; clear HB; have HO_8 := n0_; have BK215 := n1_; have BK216 := n2_; have BK217 := n3_; have HB := n4_; have BK239 := n5_; have GW239 := n6_; have GE239 := n7_; have NB215_239 := n8_; have NB239_215 := n9_; have NB216_239 := n10_; have NB239_216 := n11_; have NB217_239 := n12_; have NB239_217 := n13_; clear n0_ n1_ n2_ n3_ n4_ n5_ n6_ n7_ n8_ n9_ n10_ n11_ n12_ n13_; clear hb hbox hg; have hnb112 := NB239_215.out; have hnc112 := NB215_239.out; have hnb113 := NB239_216.out; have hnc113 := NB216_239.out; have hnb114 := NB239_217.out; have hnc114 := NB217_239.out; obtain ⟨hcz115_0, hcz115_1, hfz115_0, hfz115_1⟩ := cz2 (W := w111) BK239))
                (try simp only [Act.put, List.setIfInBounds_toArray, List.set_cons_zero, List.set_cons_succ])
                by_cases c116 : (t237.size : Int) > 2000
                ·rw [if_pos c116] at H
                 have c116b0 : decide (2000 < (t237.size : Int)) = true := decide_eq_true c116
                 have c116b1 : decide (2000 < t237.size) = true := decide_eq_true (by omega)
                 clear c116
                 try first | rw [c116b0] | rw [c116b1]
                 simp only [Option.some.injEq, Prod.mk.injEq] at H
                 obtain ⟨rfl, rfl, rfl⟩ := H
                 have hnb117 := NB217_215.out
                 have hnc117 := NB215_217.out
                 have hnb118 := NB217_216.out
                 have hnc118 := NB216_217.out
                 have hnb119 := NB217_239.out
                 have hnc119 := NB239_217.out
                 obtain ⟨hcz120_0, hcz120_1, hfz120_0, hfz120_1⟩ := cz2 (W := w111) BK217
                 go_wp2
                 refine bodyPost_ret (results_ct rfl _ _ gb217 28 #[.string (⟨#[]⟩ : ByteArray), .int .i64 0] (0, 0) _ rfl bk Tryd.underlying28 rfl (by kernel_rfl)) rfl ?_
                 exact ⟨by first | rfl | (simp [errW_none, errW_some] <;> rfl) | (simp only [← hji44, ← hji45]; first | rfl | (simp [errW_none, errW_some] <;> rfl)) | (simp [*, errW_none, errW_some] <;> rfl), bz⟩
                ·rw [if_neg c116] at H
                 have c116b0 : decide (2000 < (t237.size : Int)) = false := decide_eq_false c116
                 have c116b1 : decide (2000 < t237.size) = false := decide_eq_false (by omega)
                 clear c116
                 try first | rw [c116b0] | rw [c116b1]
                 simp only [Option.some.injEq, Prod.mk.injEq] at H
                 obtain ⟨rfl, rfl, rfl⟩ := H
                 have hnb121 := NB239_215.out
                 have hnc121 := NB215_239.out
                 have hnb122 := NB239_216.out
                 have hnc122 := NB216_239.out
                 have hnb123 := NB239_217.out
                 have hnc123 := NB217_239.out
                 obtain ⟨hcz124_0, hcz124_1, hfz124_0, hfz124_1⟩ := cz2 (W := w111) BK239
                 have hnb125 := NB217_215.out
                 have hnc125 := NB215_217.out
                 have hnb126 := NB217_216.out
                 have hnc126 := NB216_217.out
                 obtain ⟨hcz127_0, hcz127_1, hfz127_0, hfz127_1⟩ := cz2 (W := w111) BK217
                 go_wp2
                 refine bodyPost_ret (results_ct rfl _ _ gb217 28 #[.string t237, .int .i64 t238] (0, 0) _ rfl bk Tryd.underlying28 rfl (by kernel_rfl)) rfl ?_
                 exact ⟨by first | rfl | (simp [errW_none, errW_some] <;> rfl) | (simp only [← hji44, ← hji45]; first | rfl | (simp [errW_none, errW_some] <;> rfl)) | (simp [*, errW_none, errW_some] <;> rfl), bz⟩
       ·rw [if_neg c47] at H
        exact absurd H (by simp)
      ·rw [if_neg c46] at H
       exact absurd H (by simp)
 ·rw [if_neg c15] at H
  obtain ⟨c15b0, c15b1⟩ := eF c15
  try first | rw [c15b0] | rw [c15b1]
  simp only [Option.some.injEq, Prod.mk.injEq] at H
  obtain ⟨rfl, rfl, rfl⟩ := H
  have hnb128 := NB217_215.out
  have hnc128 := NB215_217.out
  have hnb129 := NB217_216.out
  have hnc129 := NB216_217.out
  obtain ⟨hcz130_0, hcz130_1, hfz130_0, hfz130_1⟩ := cz2 (W := w12) BK217
  go_wp2
  refine bodyPost_ret (results_ct rfl _ _ gb217 28 #[.string (⟨#[]⟩ : ByteArray), .int .i64 0] (0, 0) _ rfl bk Tryd.underlying28 rfl (by kernel_rfl)) rfl ?_
  exact ⟨ez, bz⟩
end Go.Proofs.YtmeapdchnnpceaaDoor.Fn
end
section
namespace Go.Proofs.YtmeapdchnnpceaaDoor.Fn
open Go.RowKit Go.Proofs.YtmeapdchnnpceaaDoorW.PrintWords
def Bts (w : World) (e : TypeId) (g : Nat) (xs : List Int) : Prop :=
  ∃ cur lo hi, w.heap[g]? = some (.cells cur e (lo, hi)) ∧ xs.length ≤ cur.size ∧ cur.size ≤ lo ∧ cur.toList.take xs.length = nums .u8 xs
theorem Bts.made (w : World) (e : TypeId) (s : ByteArray) : Bts (Lib.bytesWorld w e s) e w.heap.size (bytesOf s) := by
  have hb : s.size ≤ (Lib.bytesCells w e s).size := by
    unfold Lib.bytesCells
    rw [Array.size_append, Array.size_map]
    exact Nat.le_add_right _ _
  refine ⟨_, _, _, Lib.bytesWorld_at_new w e s, by rw [bytesOf_length]; exact hb, Nat.le_refl _, ?_⟩
  rw [bytesOf_length]
  unfold Lib.bytesCells
  rw [Array.toList_append, List.take_append_of_le_length (by rw [Array.length_toList, Array.size_map]; exact Nat.le_refl _), List.take_of_length_le (by rw [Array.length_toList, Array.size_map]; exact Nat.le_refl _)]
  simp [nums, bytesOf]
theorem Bts.cell {w : World} {e : TypeId} {g : Nat} {xs : List Int} (h : Bts w e g xs) (i : Nat) (hi : i < xs.length) : w.cell? ⟨g, i, none⟩ = some (.int .u8 (rd xs i)) := by
  obtain ⟨cur, lo, hi', hg, hl, _, ht⟩ := h
  rw [cell_of_row w g i cur e (lo, hi') hg]
  have h2 : (cur.toList.take xs.length)[i]? = (nums .u8 xs)[i]? := by rw [ht]
  rw [List.getElem?_take_of_lt hi, Array.getElem?_toList] at h2
  rw [h2]
  simp [nums, rd, List.getElem?_eq_getElem hi, List.getD_eq_getElem?_getD]
theorem Bts.free {w : World} {e : TypeId} {g : Nat} {xs : List Int} (h : Bts w e g xs) (i : Nat) (hi : i < xs.length) : w.frozen? ⟨g, i, none⟩ = false := by
  obtain ⟨cur, lo, hi', hg, hl, hlo, _⟩ := h
  simp [World.frozen?, hg]
  omega
theorem Bts.set {w : World} {e : TypeId} {g : Nat} {xs : List Int} (h : Bts w e g xs) (i : Nat) (y : Int) : Bts (w.setCell ⟨g, i, none⟩ (.int .u8 y)) e g (xs.set i y) := by
  obtain ⟨cur, lo, hi', hg, hl, hlo, ht⟩ := h
  refine ⟨cur.setIfInBounds i (.int .u8 y), lo, hi', ?_, by simpa using hl, by simpa using hlo, ?_⟩
  · have hlt : g < w.heap.size := (Array.getElem?_eq_some_iff.1 hg).1
    have hv : w.heap[g] = .cells cur e (lo, hi') := (Array.getElem?_eq_some_iff.1 hg).2
    unfold World.setCell
    rw [Array.getElem?_eq_getElem (by simpa using hlt), Array.getElem_modify]
    simp [hv]
  · rw [List.length_set, Array.toList_setIfInBounds, List.take_set, ht]
    simp [nums, List.map_set]
theorem Bts.text {P : Program} {w : World} {e src dst : TypeId} {g cap : Nat} {xs : List Int} (h : Bts w e g xs) (hs : P.underlying src = some (.slice e)) (he : P.underlying e = some (.int .u8)) (hd : P.underlying dst = some .string) :
    (convert src dst (.slice (some ⟨g, 0, none⟩) xs.length cap)).run P w = .ok (.string (strOfNums xs)) w :=
  run_convert_bytes_arg w src e hs he g 0 xs.length cap xs rfl (fun i hi => by
    have := h.cell i hi
    rw [Nat.zero_add]
    exact this) dst hd
end Go.Proofs.YtmeapdchnnpceaaDoor.Fn
end
section
namespace Go.Proofs.YtmeapdchnnpceaaDoor.Fn
open Go.RowKit Go.Proofs.YtmeapdchnnpceaaDoorW.PrintWords
set_option linter.unusedVariables false
set_option linter.unusedSimpArgs false
def upGo (xs : List Int) : Nat → List Int
  | 0 => 49 :: xs
  | j + 1 => if rd xs j < 57 then xs.set j (rd xs j + 1) else upGo (xs.set j 48) j
def bigdec_up.f (s : ByteArray) : Option ByteArray := if s.size ≤ 100000 then some (strOfNums (upGo (bytesOf s) s.size)) else none
theorem pos_set {xs : List Int} (h : ∀ x ∈ xs, 0 ≤ x) (j : Nat) (y : Int) (hy : 0 ≤ y) : ∀ x ∈ xs.set j y, 0 ≤ x := by
  intro x hx
  rcases List.mem_or_eq_of_mem_set hx with h1 | h1
  · exact h x h1
  · rw [h1]; exact hy
theorem pos_rd {xs : List Int} (h : ∀ x ∈ xs, 0 ≤ x) (i : Int) : 0 ≤ rd xs i := by
  unfold rd
  rw [List.getD_eq_getElem?_getD]
  cases hg : xs[i.toNat]? with
  | none => simp
  | some x => exact h x (List.mem_of_getElem? hg)
theorem one_ahead (xs : List Int) : (⟨#[49]⟩ : ByteArray) ++ strOfNums xs = strOfNums (49 :: xs) := by
  apply ByteArray.ext
  rw [ByteArray.data_append]
  simp [strOfNums]
set_option maxHeartbeats 4000000 in
set_option maxRecDepth 100000 in
theorem bigdec_up.calls (a0 r : ByteArray) (w : World) (h : bigdec_up.f a0 = some r) :
    Calls Tryd.prog 64 #[.string a0] w fun e w' => e = .returned (.string r) ∧ Below w.heap.size w w' := by
  unfold bigdec_up.f at h
  split at h
  case isFalse => cases h
  rename_i hsz
  obtain rfl := Option.some.inj h
  clear h
  have kc := fun W => print_bytes (P := Tryd.prog) 9 48 5 Tryd.underlying9 Tryd.underlying48 Tryd.underlying5 a0 W
  have HM := Aside0.mk (Bts.made w 5 a0)
  have HB := Aside0.mk (bytes_below (Below.refl w.heap.size w) (Nat.le_refl _) 5 a0)
  have hlen : (bytesOf a0).length = a0.size := bytesOf_length a0
  have hpos : ∀ x ∈ bytesOf a0, 0 ≤ x := by
    intro x hx
    simp only [bytesOf, List.mem_map] at hx
    obtain ⟨b, _, rfl⟩ := hx
    omega
  have HP := Aside0.mk hpos
  have HL := Aside0.mk hlen
  clear hpos hlen
  go_enter Tryd.func64, Tryd.ntmps64
  go_wp2
  clear kc
  generalize grownCap w a0.size 0 5 = cap
  generalize hW1 : Lib.bytesWorld w 5 a0 = w1 at HM HB ⊢
  clear hW1
  go_loopw [4] (fun i wr => ∃ (j : Nat) (xs : List Int), j ≤ a0.size ∧ i = .int .i64 ((j : Int) - 1) ∧ Aside0 (xs.length = a0.size) ∧ Aside0 (∀ x ∈ xs, 0 ≤ x) ∧ Aside0 (upGo xs j = upGo (bytesOf a0) a0.size) ∧ Aside0 (Bts wr 5 w.heap.size xs) ∧ Aside0 (Below w.heap.size w wr)) (fun i _ => (intOf i + 1).toNat)
  case atStart => exact ⟨a0.size, bytesOf a0, Nat.le_refl _, rfl, HL, HP, ⟨rfl⟩, HM, HB⟩
  case round =>
    obtain ⟨j, xs, hj, rfl, HL1, HP1, HU, HM1, HB1⟩ := hrel
    cases j with
    | zero =>
      have ht := HM1.out.text (P := Tryd.prog) (src := 48) (dst := 9) (cap := cap) Tryd.underlying48 Tryd.underlying5 Tryd.underlying9
      rw [HL1.out] at ht
      have hsz2 : 1 + (strOfNums xs).size ≤ 9223372036854775807 := by rw [strOfNums_size, HL1.out]; omega
      go_wp2
      go_ret
      refine ⟨?_, HB1.out⟩
      rw [one_ahead, ← HU.out]
      rfl
    | succ m =>
      have hm : m < a0.size := hj
      have hml : m < xs.length := by rw [HL1.out]; exact hm
      have hc := HM1.out.cell m hml
      have hf := HM1.out.free m hml
      have hx := pos_rd HP1.out (m : Int)
      rw [show (((m + 1 : Nat) : Int) - 1) = (m : Int) by omega]
      have HU' : Aside0 ((if rd xs m < 57 then xs.set m (rd xs m + 1) else upGo (xs.set m 48) m) = upGo (bytesOf a0) a0.size) := ⟨HU.out⟩
      by_cases hlt : rd xs m < 57
      · have hS := HM1.out.set m (rd xs m + 1)
        have HS := Aside0.mk hS
        have HU2 := Aside0.mk ((if_pos hlt).symm.trans HU'.out)
        clear hS HU'
        have ht := HS.out.text (P := Tryd.prog) (src := 48) (dst := 9) (cap := cap) Tryd.underlying48 Tryd.underlying5 Tryd.underlying9
        rw [List.length_set, HL1.out] at ht
        have HBB := Aside0.mk (below_set HB1.out (Nat.le_refl _) : Below w.heap.size w (wr.setCell ⟨w.heap.size, m, none⟩ (.int .u8 (rd xs m + 1))))
        generalize rd xs m = x at *
        clear HM1
        go_wp2
        go_ret
        refine ⟨?_, HBB.out⟩
        rw [HU2.out]
        rfl
      · have HU2 := Aside0.mk ((if_neg hlt).symm.trans HU'.out)
        clear HU'
        go_wp2
        go_roundw
        case rel => exact ⟨m, xs.set m 48, by omega, by go_num, ⟨by rw [List.length_set]; exact HL1.out⟩, ⟨pos_set HP1.out m 48 (by omega)⟩, HU2, ⟨HM1.out.set m 48⟩, ⟨below_set HB1.out (Nat.le_refl _)⟩⟩
        case measure => simp [intOf]
end Go.Proofs.YtmeapdchnnpceaaDoor.Fn
end
section
namespace Go.Proofs.YtmeapdchnnpceaaDoor.Fn
open Go.RowKit Go.Proofs.YtmeapdchnnpceaaDoorW.PrintWords Go.Proofs.YtmeapdchnnpceaaDoorW.PrintLast Go.Proofs.YtmeapdchnnpceaaDoorW.PrintMore
attribute [local go_sem] min2_int min_two
set_option linter.unusedVariables false
set_option linter.unusedSimpArgs false
mutual
def bigdec_round.j0 : Nat → Int → ByteArray → ByteArray → Bool → ByteArray → Int → Option (ByteArray × Int)
 | 0, _, _, _, _, _, _ => none
 | k + 1, x1, x5, x6, x7, x241000, x241001 => if (Op.bytesLess x6.toList ([53] : List UInt8)) = true then (bigdec_round.j1 k x1 x5 true x241000 x241001) else (if x6.toList = ([53] : List UInt8) then (bigdec_round.j1 k x1 x5 (!x7) x241000 x241001) else (bigdec_round.j1 k x1 x5 false x241000 x241001))
def bigdec_round.j1 : Nat → Int → ByteArray → Bool → ByteArray → Int → Option (ByteArray × Int)
 | 0, _, _, _, _, _ => none
 | k + 1, x1, x5, x48, x241000, x241001 => if x48 = true then ((bigdec_form.f x5 x241001).bind fun bt242 => (some (bt242.1, bt242.2))) else ((bigdec_up.f x5).bind fun t244 => ((bigdec_form.f t244 (wrap64 ((wrap64 (x241001 + (t244.size : Int))) - x1))).bind fun bt245 => (some (bt245.1, bt245.2))))
end
def bigdec_round.f (k : Nat) (a0_0 : ByteArray) (a0_1 : Int) (a1 : Int) : Option (ByteArray × Int) := if a1 < 0 then (some ((⟨#[]⟩ : ByteArray), 0)) else (if a1 ≥ (a0_0.size : Int) then (some (a0_0, a0_1)) else (if 0 ≤ a1 then (if a1 ≤ (a0_0.size : Int) then (if a1 > 0 then (if 0 ≤ (wrap64 (a1 - 1)) then (if (wrap64 (a1 - 1)) < ((a0_0.extract 0 (a1 : Int).toNat).size : Int) then (bigdec_round.j0 k a1 (a0_0.extract 0 (a1 : Int).toNat) (a0_0.extract (a1 : Int).toNat a0_0.size) (((((bt (a0_0.extract 0 (a1 : Int).toNat) (wrap64 (a1 - 1))) - 48) % 256) % 2) == 1) a0_0 a0_1) else (none)) else (none)) else (bigdec_round.j0 k a1 (a0_0.extract 0 (a1 : Int).toNat) (a0_0.extract (a1 : Int).toNat a0_0.size) false a0_0 a0_1)) else (none)) else (none)))
set_option maxHeartbeats 8000000 in
set_option maxRecDepth 100000 in
theorem bigdec_round.calls (k : Nat) (a0_0 : ByteArray) (a0_1 : Int) (a1 : Int) (r1 : ByteArray) (r2 : Int) (w : World) (h : bigdec_round.f k a0_0 a0_1 a1 = some (r1, r2)) :
  Calls Tryd.prog 52 #[.agg #[.string a0_0, .int .i64 a0_1], .int .i64 a1] w fun e w' => e = .returned (.agg #[.string r1, .int .i64 r2]) ∧ Below w.heap.size w w' := by
 have hu28 := Tryd.underlying28
 have HB := Aside0.mk (Below.refl w.heap.size w)
 have H : (if a1 < 0 then (some ((⟨#[]⟩ : ByteArray), 0)) else (if a1 ≥ (a0_0.size : Int) then (some (a0_0, a0_1)) else (if 0 ≤ a1 then (if a1 ≤ (a0_0.size : Int) then (if a1 > 0 then (if 0 ≤ (wrap64 (a1 - 1)) then (if (wrap64 (a1 - 1)) < ((a0_0.extract 0 (a1 : Int).toNat).size : Int) then (bigdec_round.j0 k a1 (a0_0.extract 0 (a1 : Int).toNat) (a0_0.extract (a1 : Int).toNat a0_0.size) (((((bt (a0_0.extract 0 (a1 : Int).toNat) (wrap64 (a1 - 1))) - 48) % 256) % 2) == 1) a0_0 a0_1) else (none)) else (none)) else (bigdec_round.j0 k a1 (a0_0.extract 0 (a1 : Int).toNat) (a0_0.extract (a1 : Int).toNat a0_0.size) false a0_0 a0_1)) else (none)) else (none)))) = some (r1, r2) := h
 clear h
 go_enter Tryd.func52, Tryd.ntmps52
 go_upto_if 9 with (first | ((with_reducible refine gate_dst (N := 2) rfl ?_); refine box_event rfl (N := 2) rfl (cs := #[.string a0_0, .int .i64 a0_1]) (t := 28) gz ?_; intro gb240 hg w3 hbox hb; have GW240 := gN bz hg; have GE240 := gN bz hg; have BK240 := Aside0.mk hbox; replace HB := bN bz hb; clear hb hbox hg) | ((with_reducible refine gate_dst (N := 4) rfl ?_); refine box_event rfl (N := 4) rfl (cs := #[.string (⟨#[]⟩ : ByteArray), .int .i64 0]) (t := 28) gz ?_; intro gb241 hg w4 hbox hb; have GW241 := gN bz hg; have GE241 := gN bz hg; have NB240_241 := lN (g := gb240) (cs := #[.string a0_0, .int .i64 a0_1]) hg bk; have NB241_240 := rN (g := gb240) (cs := #[.string a0_0, .int .i64 a0_1]) hg bk; replace BK240 := kN (g := gb240) (cs := #[.string a0_0, .int .i64 a0_1]) hb bk; have BK241 := Aside0.mk hbox; replace HB := bN bz hb; clear hb hbox hg))
 repeat (go_quiet (first | ((with_reducible refine gate_dst (N := 2) rfl ?_); refine box_event rfl (N := 2) rfl (cs := #[.string a0_0, .int .i64 a0_1]) (t := 28) gz ?_; intro gb240 hg w3 hbox hb; have n0_ := Aside0.mk (below_step bz hb); have n1_ := Aside0.mk (hbox); have n2_ := Aside0.mk ((by rw [hg]; exact (below_size bz) : w.heap.size ≤ gb240)); have n3_ := Aside0.mk ((by rw [hg]; exact (below_size bz) : w.heap.size ≤ gb240)); clear HB; have HB := n0_; have BK240 := n1_; have GW240 := n2_; have GE240 := n3_; clear n0_ n1_ n2_ n3_; clear hb hbox hg) | ((with_reducible refine gate_dst (N := 4) rfl ?_); refine box_event rfl (N := 4) rfl (cs := #[.string (⟨#[]⟩ : ByteArray), .int .i64 0]) (t := 28) gz ?_; intro gb241 hg w4 hbox hb; have n0_ := Aside0.mk (blk_below (g := gb240) (o := .cells #[.string a0_0, .int .i64 a0_1] 28 (0, 0)) bk hb); have n1_ := Aside0.mk (below_step bz hb); have n2_ := Aside0.mk (hbox); have n3_ := Aside0.mk ((by rw [hg]; exact (below_size bz) : w.heap.size ≤ gb241)); have n4_ := Aside0.mk ((by rw [hg]; exact (below_size bz) : w.heap.size ≤ gb241)); have n5_ := Aside0.mk ((by rw [hg]; exact Nat.ne_of_lt (blk_lt (g := gb240) (o := .cells #[.string a0_0, .int .i64 a0_1] 28 (0, 0)) bk) : gb240 ≠ gb241)); have n6_ := Aside0.mk ((by rw [hg]; exact Nat.ne_of_gt (blk_lt (g := gb240) (o := .cells #[.string a0_0, .int .i64 a0_1] 28 (0, 0)) bk) : gb241 ≠ gb240)); clear BK240; clear HB; have BK240 := n0_; have HB := n1_; have BK241 := n2_; have GW241 := n3_; have GE241 := n4_; have NB240_241 := n5_; have NB241_240 := n6_; clear n0_ n1_ n2_ n3_ n4_ n5_ n6_; clear hb hbox hg)); go_upto_if 9 with (first | ((with_reducible refine gate_dst (N := 2) rfl ?_); refine box_event rfl (N := 2) rfl (cs := #[.string a0_0, .int .i64 a0_1]) (t := 28) gz ?_; intro gb240 hg w3 hbox hb; have n0_ := Aside0.mk (below_step bz hb); have n1_ := Aside0.mk (hbox); have n2_ := Aside0.mk ((by rw [hg]; exact (below_size bz) : w.heap.size ≤ gb240)); have n3_ := Aside0.mk ((by rw [hg]; exact (below_size bz) : w.heap.size ≤ gb240)); clear HB; have HB := n0_; have BK240 := n1_; have GW240 := n2_; have GE240 := n3_; clear n0_ n1_ n2_ n3_; clear hb hbox hg) | ((with_reducible refine gate_dst (N := 4) rfl ?_); refine box_event rfl (N := 4) rfl (cs := #[.string (⟨#[]⟩ : ByteArray), .int .i64 0]) (t := 28) gz ?_; intro gb241 hg w4 hbox hb; have n0_ := Aside0.mk (blk_below (g := gb240) (o := .cells #[.string a0_0, .int .i64 a0_1] 28 (0, 0)) bk hb); have n1_ := Aside0.mk (below_step bz hb); have n2_ := Aside0.mk (hbox); have n3_ := Aside0.mk ((by rw [hg]; exact (below_size bz) : w.heap.size ≤ gb241)); have n4_ := Aside0.mk ((by rw [hg]; exact (below_size bz) : w.heap.size ≤ gb241)); have n5_ := Aside0.mk ((by rw [hg]; exact Nat.ne_of_lt (blk_lt (g := gb240) (o := .cells #[.string a0_0, .int .i64 a0_1] 28 (0, 0)) bk) : gb240 ≠ gb241)); have n6_ := Aside0.mk ((by rw [hg]; exact Nat.ne_of_gt (blk_lt (g := gb240) (o := .cells #[.string a0_0, .int .i64 a0_1] 28 (0, 0)) bk) : gb241 ≠ gb240)); clear BK240; clear HB; have BK240 := n0_; have HB := n1_; have BK241 := n2_; have GW241 := n3_; have GE241 := n4_; have NB240_241 := n5_; have NB241_240 := n6_; clear n0_ n1_ n2_ n3_ n4_ n5_ n6_; clear hb hbox hg)))
 (try simp only [Act.put, List.setIfInBounds_toArray, List.set_cons_zero, List.set_cons_succ])
 by_cases c5 : a1 < 0
 ·rw [if_pos c5] at H
  have c5b0 := decide_eq_true c5
  clear c5
  try rw [c5b0]
  simp only [Option.some.injEq, Prod.mk.injEq] at H
  obtain ⟨rfl, rfl⟩ := H
  have hnb6 := NB241_240.out
  have hnc6 := NB240_241.out
  obtain ⟨hcz7_0, hcz7_1, hfz7_0, hfz7_1⟩ := cz2 (W := w4) BK241
  go_wp2
  repeat (go_quiet (fail); try go_wp2)
  refine bodyPost_ret (results_cell_row rfl _ _ gb241 28 #[.string (⟨#[]⟩ : ByteArray), .int .i64 0] (0, 0) _ rfl bk Tryd.underlying28 rfl (by kernel_rfl)) rfl ?_
  exact ⟨ez, bz⟩
 ·rw [if_neg c5] at H
  have c5b0 := decide_eq_false c5
  clear c5
  try rw [c5b0]
  by_cases c8 : a1 ≥ (a0_0.size : Int)
  ·rw [if_pos c8] at H
   have c8b0 : decide ((a0_0.size : Int) ≤ a1) = true := decide_eq_true c8
   clear c8
   simp only [Option.some.injEq, Prod.mk.injEq] at H
   obtain ⟨rfl, rfl⟩ := H
   have hnb9 := NB240_241.out
   have hnc9 := NB241_240.out
   obtain ⟨hcz10_0, hcz10_1, hfz10_0, hfz10_1⟩ := cz2 (W := w4) BK240
   obtain ⟨hcz11_0, hcz11_1, hfz11_0, hfz11_1⟩ := cz2 (W := w4) BK241
   go_wp2
   repeat (go_quiet (fail); try go_wp2)
   refine bodyPost_ret (results_cell_row rfl _ _ gb241 28 #[.string a0_0, .int .i64 a0_1] (0, 0) _ rfl bk Tryd.underlying28 rfl (by kernel_rfl)) rfl ?_
   exact ⟨ez, bz⟩
  ·rw [if_neg c8] at H
   have c8b0 : decide ((a0_0.size : Int) ≤ a1) = false := decide_eq_false c8
   clear c8
   by_cases c12 : 0 ≤ a1
   ·rw [if_pos c12] at H
    have c12b0 := eq_true c12
    have c12b1 : decide (0 ≤ a1) = true := decide_eq_true c12
    clear c12
    by_cases c13 : a1 ≤ (a0_0.size : Int)
    ·rw [if_pos c13] at H
     have c13b0 := eq_true c13
     have c13b1 : decide (a1 ≤ (a0_0.size : Int)) = true := decide_eq_true c13
     clear c13
     have c14b0 := eq_true (of_decide_eq_true (by first | (with_reducible assumption) | assumption) : 0 ≤ a1)
     have c15b0 := eq_true (of_decide_eq_true (by first | (with_reducible assumption) | assumption) : a1 ≤ (a0_0.size : Int))
     have HC16 := Aside0.mk H
     clear H
     have hnb17 := NB240_241.out
     have hnc17 := NB241_240.out
     obtain ⟨hcz18_0, hcz18_1, hfz18_0, hfz18_1⟩ := cz2 (W := w4) BK240
     go_upto_region 6 with (fail)
     repeat (go_quiet (fail); go_upto_region 6 with (fail))
     go_cut [7] (fun v7 wc => ∃ (kq : Nat) (x7_15 : Bool), v7 = .bool x7_15 ∧ Aside0 (bigdec_round.j0 kq a1 (a0_0.extract 0 (a1 : Int).toNat) (a0_0.extract (a1 : Int).toNat a0_0.size) x7_15 a0_0 a0_1 = some (r1, r2)) ∧ Aside0 (kq ≤ k) ∧ Aside0 (wc.heap[gb240]? = some (.cells #[.string a0_0, .int .i64 a0_1] 28 (0, 0))) ∧ Aside0 (wc.heap[gb241]? = some (.cells #[.string (⟨#[]⟩ : ByteArray), .int .i64 0] 28 (0, 0))) ∧ Aside0 (Below w.heap.size w wc))
     case first =>
      have H := HC16.out
      clear HC16
      by_cases c19 : a1 > 0
      ·rw [if_pos c19] at H
       have c19b0 : decide (0 < a1) = true := decide_eq_true c19
       clear c19
       try rw [c19b0]
       obtain ⟨ji20, hji20⟩ : ∃ j_ : Int, (wrap64 (a1 - 1)) = j_ := ⟨_, rfl⟩
       (first | rw [hji20] at H | simp only [hji20] at H)
       have hji20w : (IntKind.i64.wrap (a1 - 1)) = ji20 := (i64_w _).trans hji20
       by_cases c21 : 0 ≤ (ji20)
       ·rw [if_pos c21] at H
        have c21b0 := decide_eq_true c21
        clear c21
        by_cases c22 : (ji20) < ((a0_0.extract 0 (a1 : Int).toNat).size : Int)
        ·rw [if_pos c22] at H
         have c22b0 := decide_eq_true c22
         have c22b7 : decide (ji20 < max a1 0) = true := decide_eq_true (by have h_ : (((a0_0).extract 0 (a1 : Int).toNat).size : Int) = max a1 0 := (by have hle_ : a1 ≤ (a0_0.size : Int) := of_decide_eq_true (by assumption); simp [ByteArray.size_extract]; omega); rw [← h_]; exact c22)
         have c22b8 : (ji20 < max a1 0) = True := eq_true (of_decide_eq_true c22b7)
         clear c22
         have H' := Aside0.mk H
         clear H
         have p23 : 0 ≤ ((ji20) : Int) := of_decide_eq_true (by first | (with_reducible assumption) | assumption)
         have q23 : (ji20) < ((a0_0.extract 0 (a1 : Int).toNat).size : Int) := of_decide_eq_true (by first | (with_reducible assumption) | assumption)
         have hx23 := bt_at (a0_0.extract 0 (a1 : Int).toNat) (ji20)
         replace p23 := eq_true p23
         replace q23 := eq_true q23
         go_wp2
         repeat (go_quiet (fail); try go_wp2)
         go_meet
         case rel => exact ⟨_, ((((((bt (a0_0.extract 0 (a1 : Int).toNat) (ji20)) - 48) % 256) % 2) == 1)), (by first | rfl | (simp; done) | (simp only [← hji20] <;> (first | rfl | simp)) | (simp [*]; done)), H', ⟨by first | omega | exact Nat.le_refl _⟩, ⟨bk⟩, ⟨bk⟩, ⟨bz⟩⟩
        ·rw [if_neg c22] at H
         exact absurd H (by simp)
       ·rw [if_neg c21] at H
        exact absurd H (by simp)
      ·rw [if_neg c19] at H
       have c19b0 : decide (0 < a1) = false := decide_eq_false c19
       clear c19
       try rw [c19b0]
       have H' := Aside0.mk H
       clear H
       go_wp2
       repeat (go_quiet (fail); try go_wp2)
       go_meet
       case rel => exact ⟨_, (false), rz, H', ⟨by first | omega | exact Nat.le_refl _⟩, ⟨bk⟩, ⟨bk⟩, ⟨bz⟩⟩
     case rest =>
      clear HC16
      try clear c5
      try clear c5b0
      try clear c8
      try clear c8b0
      try clear c12
      try clear c12b0
      try clear c12b1
      try clear c13
      try clear c13b0
      try clear c13b1
      try clear c14b0
      try clear c15b0
      try clear c19
      try clear c19b0
      try clear c21
      try clear c21b0
      try clear c22
      try clear c22b0
      try clear p23
      try clear q23
      try clear hx23
      try clear hcz10_0 hcz10_1 hfz10_0 hfz10_1
      try clear hcz11_0 hcz11_1 hfz11_0 hfz11_1
      try clear hcz18_0 hcz18_1 hfz18_0 hfz18_1
      try clear hcz7_0 hcz7_1 hfz7_0 hfz7_1
      try clear p23
      try clear q23
      obtain ⟨kq, x7_15, rfl, HA, HJ15, BK240, BK241, HB⟩ := hcut
      cases kq with
      | zero => exact absurd HA.out (by simp [bigdec_round.j0])
      | succ kj15 =>
       have H := HA.out
       clear HA
       simp only [bigdec_round.j0] at H
       have HC24 := Aside0.mk H
       clear H
       go_upto_region 7 with (fail)
       repeat (go_quiet (fail); go_upto_region 7 with (fail))
       go_cut [48] (fun v48 wc => ∃ (kq : Nat) (x48_23 : Bool), v48 = .bool x48_23 ∧ Aside0 (bigdec_round.j1 kq a1 (a0_0.extract 0 (a1 : Int).toNat) x48_23 a0_0 a0_1 = some (r1, r2)) ∧ Aside0 (kq ≤ kj15) ∧ Aside0 (wc.heap[gb240]? = some (.cells #[.string a0_0, .int .i64 a0_1] 28 (0, 0))) ∧ Aside0 (wc.heap[gb241]? = some (.cells #[.string (⟨#[]⟩ : ByteArray), .int .i64 0] 28 (0, 0))) ∧ Aside0 (Below w.heap.size w wc))
       case first =>
        have H := HC24.out
        clear HC24
        by_cases c25 : (Op.bytesLess (a0_0.extract (a1 : Int).toNat a0_0.size).toList ([53] : List UInt8)) = true
        ·rw [if_pos c25] at H
         have c25b0 : (Op.bytesLess (a0_0.extract (a1 : Int).toNat a0_0.size).toList ([53] : List UInt8)) = true := c25
         clear c25
         try rw [c25b0]
         have H' := Aside0.mk H
         clear H
         go_wp2
         repeat (go_quiet (fail); try go_wp2)
         go_meet
         case rel => exact ⟨_, (true), rz, H', ⟨by have := HJ15.out; first | omega | exact Nat.le_refl _⟩, ⟨bk⟩, ⟨bk⟩, ⟨bz⟩⟩
        ·rw [if_neg c25] at H
         have c25b0 : (Op.bytesLess (a0_0.extract (a1 : Int).toNat a0_0.size).toList ([53] : List UInt8)) = false := by simpa using c25
         clear c25
         try rw [c25b0]
         by_cases c26 : (a0_0.extract (a1 : Int).toNat a0_0.size).toList = ([53] : List UInt8)
         ·rw [if_pos c26] at H
          have c26b0 : ((a0_0.extract (a1 : Int).toNat a0_0.size).toList == ([53] : List UInt8)) = true := beq_iff_eq.mpr c26
          have c26b1 : ((a0_0.extract (a1 : Int).toNat a0_0.size).toList != ([53] : List UInt8)) = false := bne_eq_false_iff_eq.mpr c26
          clear c26
          have H' := Aside0.mk H
          clear H
          go_wp2
          repeat (go_quiet (fail); try go_wp2)
          go_meet
          case rel => exact ⟨_, (!x7_15), rz, H', ⟨by have := HJ15.out; first | omega | exact Nat.le_refl _⟩, ⟨bk⟩, ⟨bk⟩, ⟨bz⟩⟩
         ·rw [if_neg c26] at H
          have c26b0 : ((a0_0.extract (a1 : Int).toNat a0_0.size).toList == ([53] : List UInt8)) = false := beq_eq_false_iff_ne.mpr c26
          have c26b1 : ((a0_0.extract (a1 : Int).toNat a0_0.size).toList != ([53] : List UInt8)) = true := bne_iff_ne.mpr c26
          have H' := Aside0.mk H
          clear H
          go_wp2
          repeat (go_quiet (fail); try go_wp2)
          go_meet
          case rel => exact ⟨_, (false), rz, H', ⟨by have := HJ15.out; first | omega | exact Nat.le_refl _⟩, ⟨bk⟩, ⟨bk⟩, ⟨bz⟩⟩
       case rest =>
        clear HC24
        try clear c5
        try clear c5b0
        try clear c8
        try clear c8b0
        try clear c12
        try clear c12b0
        try clear c12b1
        try clear c13
        try clear c13b0
        try clear c13b1
        try clear c14b0
        try clear c15b0
        try clear c19
        try clear c19b0
        try clear c21
        try clear c21b0
        try clear c22
        try clear c22b0
        try clear p23
        try clear q23
        try clear hx23
        try clear c25
        try clear c25b0
        try clear c26
        try clear c26b0
        try clear c26b1
        try clear hcz10_0 hcz10_1 hfz10_0 hfz10_1
        try clear hcz11_0 hcz11_1 hfz11_0 hfz11_1
        try clear hcz18_0 hcz18_1 hfz18_0 hfz18_1
        try clear hcz7_0 hcz7_1 hfz7_0 hfz7_1
        try clear p23
        try clear q23
        obtain ⟨kq, x48_23, rfl, HA, HJ23, BK240, BK241, HB⟩ := hcut
        cases kq with
        | zero => exact absurd HA.out (by simp [bigdec_round.j1])
        | succ kj23 =>
         have H := HA.out
         clear HA
         simp only [bigdec_round.j1] at H
         by_cases c27 : x48_23 = true
         ·subst c27
          replace H := hT H
          replace H := bs H
          obtain ⟨⟨t242, t243⟩, A28, H⟩ := H
          dsimp only at H
          simp only [Option.some.injEq, Prod.mk.injEq] at H
          obtain ⟨rfl, rfl⟩ := H
          have hnb29 := NB240_241.out
          have hnc29 := NB241_240.out
          obtain ⟨hcz30_0, hcz30_1, hfz30_0, hfz30_1⟩ := cz2 (W := wc) BK240
          go_wp2_with (first | (go_at_call 51; (with_reducible refine (bigdec_form.calls (a0_0.extract 0 (a1 : Int).toNat) a0_1 t242 t243 _ A28.out).mono ?_); rintro e w31 ⟨rfl, hb⟩; replace BK240 := kN (g := gb240) (cs := #[.string a0_0, .int .i64 a0_1]) hb bk; replace BK241 := kN (g := gb241) (cs := #[.string (⟨#[]⟩ : ByteArray), .int .i64 0]) hb bk; replace HB := bN bz hb; (try clear hb); (try clear hb2); (try clear hk); (try clear hi); obtain ⟨hcz32_0, hcz32_1, hfz32_0, hfz32_1⟩ := cz2 (W := w31) BK241))
          repeat (go_quiet (first | (go_at_call 51; (with_reducible refine (bigdec_form.calls (a0_0.extract 0 (a1 : Int).toNat) a0_1 t242 t243 _ A28.out).mono ?_); rintro e w31 ⟨rfl, hb⟩; have n0_ := Aside0.mk (blk_below (g := gb240) (o := .cells #[.string a0_0, .int .i64 a0_1] 28 (0, 0)) bk hb); have n1_ := Aside0.mk (blk_below (g := gb241) (o := .cells #[.string (⟨#[]⟩ : ByteArray), .int .i64 0] 28 (0, 0)) bk hb); have n2_ := Aside0.mk (below_step bz hb); clear BK240; clear BK241; clear HB; have BK240 := n0_; have BK241 := n1_; have HB := n2_; clear n0_ n1_ n2_; (try clear hb); (try clear hb2); (try clear hk); (try clear hi); obtain ⟨hcz32_0, hcz32_1, hfz32_0, hfz32_1⟩ := cz2 (W := w31) BK241)); try go_wp2_with (first | (go_at_call 51; (with_reducible refine (bigdec_form.calls (a0_0.extract 0 (a1 : Int).toNat) a0_1 t242 t243 _ A28.out).mono ?_); rintro e w31 ⟨rfl, hb⟩; have n0_ := Aside0.mk (blk_below (g := gb240) (o := .cells #[.string a0_0, .int .i64 a0_1] 28 (0, 0)) bk hb); have n1_ := Aside0.mk (blk_below (g := gb241) (o := .cells #[.string (⟨#[]⟩ : ByteArray), .int .i64 0] 28 (0, 0)) bk hb); have n2_ := Aside0.mk (below_step bz hb); clear BK240; clear BK241; clear HB; have BK240 := n0_; have BK241 := n1_; have HB := n2_; clear n0_ n1_ n2_; (try clear hb); (try clear hb2); (try clear hk); (try clear hi); obtain ⟨hcz32_0, hcz32_1, hfz32_0, hfz32_1⟩ := cz2 (W := w31) BK241)))
          refine bodyPost_ret (results_cell_row rfl _ _ gb241 28 #[.string t242, .int .i64 t243] (0, 0) _ rfl bk Tryd.underlying28 rfl (by kernel_rfl)) rfl ?_
          exact ⟨ez, bz⟩
         ·replace c27 := Bool.eq_false_iff.mpr c27
          subst c27
          replace H := hF H
          replace H := bs H
          obtain ⟨t244, A33, H⟩ := H
          replace H := bs H
          obtain ⟨⟨t245, t246⟩, A34, H⟩ := H
          dsimp only at H
          simp only [Option.some.injEq, Prod.mk.injEq] at H
          obtain ⟨rfl, rfl⟩ := H
          go_wp2_with (first | (go_at_call 64; (with_reducible refine (bigdec_up.calls (a0_0.extract 0 (a1 : Int).toNat) t244 _ A33.out).mono ?_); rintro e w35 ⟨rfl, hb⟩; replace BK240 := kN (g := gb240) (cs := #[.string a0_0, .int .i64 a0_1]) hb bk; replace BK241 := kN (g := gb241) (cs := #[.string (⟨#[]⟩ : ByteArray), .int .i64 0]) hb bk; replace HB := bN bz hb; (try clear hb); (try clear hb2); (try clear hk); (try clear hi); have hnb36 := NB240_241.out; have hnc36 := NB241_240.out; obtain ⟨hcz37_0, hcz37_1, hfz37_0, hfz37_1⟩ := cz2 (W := w35) BK240) | (go_at_call 51; (with_reducible refine (bigdec_form.calls t244 (wrap64 ((wrap64 (a0_1 + (t244.size : Int))) - a1)) t245 t246 _ A34.out).mono ?_); rintro e w38 ⟨rfl, hb⟩; replace BK240 := kN (g := gb240) (cs := #[.string a0_0, .int .i64 a0_1]) hb bk; replace BK241 := kN (g := gb241) (cs := #[.string (⟨#[]⟩ : ByteArray), .int .i64 0]) hb bk; replace HB := bN bz hb; (try clear hb); (try clear hb2); (try clear hk); (try clear hi); obtain ⟨hcz39_0, hcz39_1, hfz39_0, hfz39_1⟩ := cz2 (W := w38) BK241))
          repeat (go_quiet (first | (go_at_call 64; (with_reducible refine (bigdec_up.calls (a0_0.extract 0 (a1 : Int).toNat) t244 _ A33.out).mono ?_); rintro e w35 ⟨rfl, hb⟩; have n0_ := Aside0.mk (blk_below (g := gb240) (o := .cells #[.string a0_0, .int .i64 a0_1] 28 (0, 0)) bk hb); have n1_ := Aside0.mk (blk_below (g := gb241) (o := .cells #[.string (⟨#[]⟩ : ByteArray), .int .i64 0] 28 (0, 0)) bk hb); have n2_ := Aside0.mk (below_step bz hb); clear BK240; clear BK241; clear HB; have BK240 := n0_; have BK241 := n1_; have HB := n2_; clear n0_ n1_ n2_; (try clear hb); (try clear hb2); (try clear hk); (try clear hi); have hnb36 := NB240_241.out; have hnc36 := NB241_240.out; obtain ⟨hcz37_0, hcz37_1, hfz37_0, hfz37_1⟩ := cz2 (W := w35) BK240) | (go_at_call 51; (with_reducible refine (bigdec_form.calls t244 (wrap64 ((wrap64 (a0_1 + (t244.size : Int))) - a1)) t245 t246 _ A34.out).mono ?_); rintro e w38 ⟨rfl, hb⟩; have n0_ := Aside0.mk (blk_below (g := gb240) (o := .cells #[.string a0_0, .int .i64 a0_1] 28 (0, 0)) bk hb); have n1_ := Aside0.mk (blk_below (g := gb241) (o := .cells #[.string (⟨#[]⟩ : ByteArray), .int .i64 0] 28 (0, 0)) bk hb); have n2_ := Aside0.mk (below_step bz hb); clear BK240; clear BK241; clear HB; have BK240 := n0_; have BK241 := n1_; have HB := n2_; clear n0_ n1_ n2_; (try clear hb); (try clear hb2); (try clear hk); (try clear hi); obtain ⟨hcz39_0, hcz39_1, hfz39_0, hfz39_1⟩ := cz2 (W := w38) BK241)); try go_wp2_with (first | (go_at_call 64; (with_reducible refine (bigdec_up.calls (a0_0.extract 0 (a1 : Int).toNat) t244 _ A33.out).mono ?_); rintro e w35 ⟨rfl, hb⟩; have n0_ := Aside0.mk (blk_below (g := gb240) (o := .cells #[.string a0_0, .int .i64 a0_1] 28 (0, 0)) bk hb); have n1_ := Aside0.mk (blk_below (g := gb241) (o := .cells #[.string (⟨#[]⟩ : ByteArray), .int .i64 0] 28 (0, 0)) bk hb); have n2_ := Aside0.mk (below_step bz hb); clear BK240; clear BK241; clear HB; have BK240 := n0_; have BK241 := n1_; have HB := n2_; clear n0_ n1_ n2_; (try clear hb); (try clear hb2); (try clear hk); (try clear hi); have hnb36 := NB240_241.out; have hnc36 := NB241_240.out; obtain ⟨hcz37_0, hcz37_1, hfz37_0, hfz37_1⟩ := cz2 (W := w35) BK240) | (go_at_call 51; (with_reducible refine (bigdec_form.calls t244 (wrap64 ((wrap64 (a0_1 + (t244.size : Int))) - a1)) t245 t246 _ A34.out).mono ?_); rintro e w38 ⟨rfl, hb⟩; have n0_ := Aside0.mk (blk_below (g := gb240) (o := .cells #[.string a0_0, .int .i64 a0_1] 28 (0, 0)) bk hb); have n1_ := Aside0.mk (blk_below (g := gb241) (o := .cells #[.string (⟨#[]⟩ : ByteArray), .int .i64 0] 28 (0, 0)) bk hb); have n2_ := Aside0.mk (below_step bz hb); clear BK240; clear BK241; clear HB; have BK240 := n0_; have BK241 := n1_; have HB := n2_; clear n0_ n1_ n2_; (try clear hb); (try clear hb2); (try clear hk); (try clear hi); obtain ⟨hcz39_0, hcz39_1, hfz39_0, hfz39_1⟩ := cz2 (W := w38) BK241)))
          refine bodyPost_ret (results_cell_row rfl _ _ gb241 28 #[.string t245, .int .i64 t246] (0, 0) _ rfl bk Tryd.underlying28 rfl (by kernel_rfl)) rfl ?_
          exact ⟨ez, bz⟩
    ·rw [if_neg c13] at H
     exact absurd H (by simp)
   ·rw [if_neg c12] at H
    exact absurd H (by simp)
end Go.Proofs.YtmeapdchnnpceaaDoor.Fn
end
section
namespace Go.Proofs.YtmeapdchnnpceaaDoor.Fn
open Go.RowKit Go.Proofs.YtmeapdchnnpceaaDoorW.PrintWords Go.Proofs.YtmeapdchnnpceaaDoorW.PrintLast Go.Proofs.YtmeapdchnnpceaaDoorW.PrintMore
attribute [local go_sem] min2_int min_two
set_option linter.unusedVariables false
set_option linter.unusedSimpArgs false
def bigdec_Round.f (k : Nat) (a0_0 : ByteArray) (a0_1 : Int) (a1 : Int) : Option (ByteArray × Int × Int) := (bigdec_Norm.f k a0_0 a0_1).bind fun bt249 => (if bt249.2.2 = 0 then ((bigdec_round.f k bt249.1 bt249.2.1 a1).bind fun bt252 => (some (bt252.1, bt252.2, 0))) else (some ((⟨#[]⟩ : ByteArray), 0, bt249.2.2)))
set_option maxHeartbeats 8000000 in
set_option maxRecDepth 100000 in
theorem bigdec_Round.calls (k : Nat) (a0_0 : ByteArray) (a0_1 : Int) (a1 : Int) (r1 : ByteArray) (r2 : Int) (r3 : Int) (w : World) (h : bigdec_Round.f k a0_0 a0_1 a1 = some (r1, r2, r3)) :
  Calls Tryd.prog 24 #[.agg #[.string a0_0, .int .i64 a0_1], .int .i64 a1] w fun e w' => e = .returned (.tuple #[.agg #[.string r1, .int .i64 r2], .int .i64 r3]) ∧ Below w.heap.size w w' := by
 have hu28 := Tryd.underlying28
 have HB := Aside0.mk (Below.refl w.heap.size w)
 have H : ((bigdec_Norm.f k a0_0 a0_1).bind fun bt249 => (if bt249.2.2 = 0 then ((bigdec_round.f k bt249.1 bt249.2.1 a1).bind fun bt252 => (some (bt252.1, bt252.2, 0))) else (some ((⟨#[]⟩ : ByteArray), 0, bt249.2.2)))) = some (r1, r2, r3) := h
 clear h
 replace H := bs H
 obtain ⟨⟨t249, t250, t251⟩, A3, H⟩ := H
 dsimp only at H
 go_enter Tryd.func24, Tryd.ntmps24
 go_upto_if 13 with (first | ((with_reducible refine gate_dst (N := 2) rfl ?_); refine box_event rfl (N := 2) rfl (cs := #[.string a0_0, .int .i64 a0_1]) (t := 28) gz ?_; intro gb247 hg w4 hbox hb; have GE247 := gN bz hg; have BK247 := Aside0.mk hbox; replace HB := bN bz hb; clear hb hbox hg) | ((with_reducible refine gate_dst (N := 4) rfl ?_); refine box_event rfl (N := 4) rfl (cs := #[.string (⟨#[]⟩ : ByteArray), .int .i64 0]) (t := 28) gz ?_; intro gb248 hg w5 hbox hb; have GE248 := gN bz hg; have NB247_248 := lN (g := gb247) (cs := #[.string a0_0, .int .i64 a0_1]) hg bk; have NB248_247 := rN (g := gb247) (cs := #[.string a0_0, .int .i64 a0_1]) hg bk; replace BK247 := kN (g := gb247) (cs := #[.string a0_0, .int .i64 a0_1]) hb bk; have BK248 := Aside0.mk hbox; replace HB := bN bz hb; clear hb hbox hg; have hnb6 := NB247_248.out; have hnc6 := NB248_247.out; obtain ⟨hcz7_0, hcz7_1, hfz7_0, hfz7_1⟩ := cz2 (W := w5) BK247) | ((with_reducible refine gate_callee (f := 32) rfl ?_); refine goesL_ (some 9) rfl rfl Tryd.func32 (by kernel_rfl) rfl #[.agg #[.string a0_0, .int .i64 a0_1]] rfl lz ?_; (with_reducible refine (bigdec_Norm.calls k a0_0 a0_1 t249 t250 t251 _ A3.out).mono ?_); rintro e w8 ⟨rfl, hb⟩; refine ⟨_, rfl, ?_⟩; replace BK247 := kN (g := gb247) (cs := #[.string a0_0, .int .i64 a0_1]) hb bk; replace BK248 := kN (g := gb248) (cs := #[.string (⟨#[]⟩ : ByteArray), .int .i64 0]) hb bk; replace HB := bN bz hb; (try clear hb); (try clear hb2); (try clear hk); (try clear hi); obtain ⟨hcz9_0, hcz9_1, hfz9_0, hfz9_1⟩ := cz2 (W := w8) BK247))
 (try simp only [Act.put, List.setIfInBounds_toArray, List.set_cons_zero, List.set_cons_succ])
 by_cases c10 : t251 = 0
 ·rw [if_pos c10] at H
  obtain ⟨c10b0, c10b1⟩ := eT c10
  clear c10
  try first | rw [c10b0] | rw [c10b1]
  replace H := bs H
  obtain ⟨⟨t252, t253⟩, A11, H⟩ := H
  dsimp only at H
  simp only [Option.some.injEq, Prod.mk.injEq] at H
  obtain ⟨rfl, rfl, rfl⟩ := H
  have hnb12 := NB247_248.out
  have hnc12 := NB248_247.out
  obtain ⟨hcz13_0, hcz13_1, hfz13_0, hfz13_1⟩ := cz2 (W := w8) BK247
  go_wp2_with (first | ((with_reducible refine gate_callee (f := 52) rfl ?_); refine goesL_ (some 18) rfl rfl Tryd.func52 (by kernel_rfl) rfl #[.agg #[.string t249, .int .i64 t250], .int .i64 a1] rfl lz ?_; (with_reducible refine (bigdec_round.calls k t249 t250 a1 t252 t253 _ A11.out).mono ?_); rintro e w14 ⟨rfl, hb⟩; refine ⟨_, rfl, ?_⟩; replace BK247 := kN (g := gb247) (cs := #[.string t249, .int .i64 t250]) hb bk; replace BK248 := kN (g := gb248) (cs := #[.string (⟨#[]⟩ : ByteArray), .int .i64 0]) hb bk; replace HB := bN bz hb; (try clear hb); (try clear hb2); (try clear hk); (try clear hi); obtain ⟨hcz15_0, hcz15_1, hfz15_0, hfz15_1⟩ := cz2 (W := w14) BK248))
  refine bodyPost_ret (results_ct rfl _ _ gb248 28 #[.string t252, .int .i64 t253] (0, 0) _ rfl bk Tryd.underlying28 rfl (by kernel_rfl)) rfl ?_
  exact ⟨ez, bz⟩
 ·rw [if_neg c10] at H
  obtain ⟨c10b0, c10b1⟩ := eF c10
  try first | rw [c10b0] | rw [c10b1]
  simp only [Option.some.injEq, Prod.mk.injEq] at H
  obtain ⟨rfl, rfl, rfl⟩ := H
  have hnb16 := NB248_247.out
  have hnc16 := NB247_248.out
  obtain ⟨hcz17_0, hcz17_1, hfz17_0, hfz17_1⟩ := cz2 (W := w8) BK248
  go_wp2
  refine bodyPost_ret (results_ct rfl _ _ gb248 28 #[.string (⟨#[]⟩ : ByteArray), .int .i64 0] (0, 0) _ rfl bk Tryd.underlying28 rfl (by kernel_rfl)) rfl ?_
  exact ⟨ez, bz⟩
end Go.Proofs.YtmeapdchnnpceaaDoor.Fn
end
section
namespace Go.Proofs.YtmeapdchnnpceaaDoor.Pure
set_option linter.unusedVariables false
def fM (f p : Nat) : Nat := if p / 2 ^ f = 0 then p % 2 ^ f else p % 2 ^ f + 2 ^ f
def fE (f p : Nat) : Nat := p / 2 ^ f - 1
def fW (f p : Nat) : Nat := fM f p * 2 ^ fE f p
theorem two_pos (n : Nat) : 0 < 2 ^ n := Nat.pow_pos (by omega)
theorem fM_lt (f p : Nat) : fM f p < 2 ^ (f + 1) := by
  have h := Nat.mod_lt p (two_pos f)
  unfold fM
  rw [Nat.pow_succ]
  split <;> omega
theorem fParts (f k m : Nat) (h1 : m < 2 ^ (f + 1)) (h2 : 2 ^ f ≤ m ∨ k = 0) : fM f (k * 2 ^ f + m) = m ∧ fE f (k * 2 ^ f + m) = k := by
  have hp := two_pos f
  rw [Nat.pow_succ] at h1
  unfold fM fE
  by_cases c : 2 ^ f ≤ m
  · have e : k * 2 ^ f + m = (m - 2 ^ f) + 2 ^ f * (k + 1) := by rw [Nat.mul_add, Nat.mul_one, Nat.mul_comm (2 ^ f) k]; omega
    rw [e, Nat.add_mul_div_left _ _ hp, Nat.add_mul_mod_self_left, Nat.div_eq_of_lt (by omega), Nat.mod_eq_of_lt (by omega)]
    rw [if_neg (by omega)]
    omega
  · have hk : k = 0 := h2.resolve_left c
    subst hk
    rw [Nat.zero_mul, Nat.zero_add, Nat.div_eq_of_lt (by omega), Nat.mod_eq_of_lt (by omega), if_pos rfl]
    exact ⟨rfl, rfl⟩
theorem fOf (f p : Nat) : p = fE f p * 2 ^ f + fM f p ∧ (2 ^ f ≤ fM f p ∨ fE f p = 0) := by
  have hp := two_pos f
  have hd := Nat.div_add_mod p (2 ^ f)
  unfold fM fE
  by_cases c : p / 2 ^ f = 0
  · rw [if_pos c, c, Nat.zero_sub, Nat.zero_mul, Nat.zero_add]
    rw [c, Nat.mul_zero, Nat.zero_add] at hd
    exact ⟨hd.symm, .inr rfl⟩
  · rw [if_neg c]
    obtain ⟨j, hj⟩ := Nat.exists_eq_succ_of_ne_zero c
    rw [Nat.succ_eq_add_one] at hj
    rw [hj] at hd ⊢
    rw [Nat.mul_add, Nat.mul_one, Nat.mul_comm (2 ^ f) j] at hd
    rw [Nat.add_sub_cancel]
    omega
theorem fW_at {f k m : Nat} (h1 : m ≤ 2 ^ (f + 1)) (h2 : 2 ^ f ≤ m ∨ k = 0) : fW f (k * 2 ^ f + m) = m * 2 ^ k := by
  by_cases c : m < 2 ^ (f + 1)
  · obtain ⟨e1, e2⟩ := fParts f k m c h2
    unfold fW
    rw [e1, e2]
  · have hm : m = 2 ^ (f + 1) := by omega
    have e : k * 2 ^ f + m = (k + 1) * 2 ^ f + 2 ^ f := by rw [hm, Nat.pow_succ, Nat.add_mul]; omega
    obtain ⟨e1, e2⟩ := fParts f (k + 1) (2 ^ f) (by rw [Nat.pow_succ]; have := two_pos f; omega) (.inl (Nat.le_refl _))
    unfold fW
    rw [e, e1, e2, hm, Nat.pow_succ, Nat.pow_succ, Nat.mul_assoc, Nat.mul_comm 2]
theorem fW_step (f p : Nat) : fW f (p + 1) = fW f p + 2 ^ fE f p := by
  obtain ⟨e1, e2⟩ := fOf f p
  have hlt := fM_lt f p
  have e3 : p + 1 = fE f p * 2 ^ f + (fM f p + 1) := by omega
  rw [e3, fW_at (by omega) (e2.imp (fun h => by omega) id)]
  unfold fW
  rw [Nat.add_mul, Nat.one_mul]
theorem fW_lt {f p q : Nat} (h : p < q) : fW f p < fW f q := by
  obtain ⟨d, rfl⟩ : ∃ d, q = p + 1 + d := ⟨q - (p + 1), by omega⟩
  clear h
  induction d with
  | zero => rw [Nat.add_zero, fW_step]; have := two_pos (fE f p); omega
  | succ d ih => rw [← Nat.add_assoc, fW_step]; have := two_pos (fE f (p + 1 + d)); omega
theorem fW_le {f p q : Nat} (h : p ≤ q) : fW f p ≤ fW f q := by
  rcases Nat.lt_or_eq_of_le h with h | rfl
  · exact Nat.le_of_lt (fW_lt h)
  · exact Nat.le_refl _
theorem fW_zero (f : Nat) : fW f 0 = 0 := by
  have := fW_at (f := f) (k := 0) (m := 0) (Nat.zero_le _) (.inr rfl)
  rw [Nat.zero_mul, Nat.zero_add, Nat.zero_mul] at this
  exact this
def fFloor (f inf X B p : Nat) : Prop := p ≤ inf ∧ fW f p * B ≤ X ∧ (p < inf → X < fW f (p + 1) * B)
theorem fFloor_one {f inf X B p q : Nat} (hB : 0 < B) (h1 : fFloor f inf X B p) (h2 : fFloor f inf X B q) : p = q := by
  obtain ⟨a1, a2, a3⟩ := h1
  obtain ⟨b1, b2, b3⟩ := h2
  have key : ∀ p q : Nat, p < q → q ≤ inf → fW f q * B ≤ X → (p < inf → X < fW f (p + 1) * B) → False := by
    intro p q hpq hq h1 h2
    have h3 := h2 (by omega)
    have h4 : fW f (p + 1) * B ≤ fW f q * B := Nat.mul_le_mul_right _ (fW_le hpq)
    omega
  rcases Nat.lt_trichotomy p q with h | h | h
  · exact (key p q h b1 b2 a3).elim
  · exact h
  · exact (key q p h a1 a2 b3).elim
def fUp (f X B p : Nat) : Prop := (fW f p + fW f (p + 1)) * B < 2 * X ∨ ((fW f p + fW f (p + 1)) * B = 2 * X ∧ p % 2 = 1)
instance (f X B p : Nat) : Decidable (fUp f X B p) := by unfold fUp; infer_instance
def fNear (f inf X B p : Nat) : Nat := if p = inf then inf else if fUp f X B p then p + 1 else p
def fFind (f X B : Nat) : Nat → Nat → Nat
  | 0, lo => lo
  | n + 1, lo => if fW f (lo + 2 ^ n) * B ≤ X then fFind f X B n (lo + 2 ^ n) else fFind f X B n lo
theorem fFind_spec (f X B : Nat) : ∀ n lo, fW f lo * B ≤ X → fW f (fFind f X B n lo) * B ≤ X ∧ (X < fW f (lo + 2 ^ n) * B → X < fW f (fFind f X B n lo + 1) * B) ∧ lo ≤ fFind f X B n lo ∧ fFind f X B n lo < lo + 2 ^ n
  | 0, lo, h => ⟨h, fun h => h, Nat.le_refl _, by simp [fFind]⟩
  | n + 1, lo, h => by
    unfold fFind
    have hp := two_pos n
    by_cases c : fW f (lo + 2 ^ n) * B ≤ X
    · rw [if_pos c]
      obtain ⟨a, b, d, e⟩ := fFind_spec f X B n (lo + 2 ^ n) c
      refine ⟨a, fun h2 => b ?_, by omega, by rw [Nat.pow_succ]; omega⟩
      rw [show lo + 2 ^ n + 2 ^ n = lo + 2 ^ (n + 1) by rw [Nat.pow_succ]; omega]
      exact h2
    · rw [if_neg c]
      obtain ⟨a, b, d, e⟩ := fFind_spec f X B n lo h
      exact ⟨a, fun _ => b (by omega), d, by rw [Nat.pow_succ]; omega⟩
end Go.Proofs.YtmeapdchnnpceaaDoor.Pure
end
section
namespace Go.Proofs.YtmeapdchnnpceaaDoor.Fn
open Go.RowKit Go.Proofs.YtmeapdchnnpceaaDoorW.PrintWords Go.Proofs.YtmeapdchnnpceaaDoorW.PrintLast Go.Proofs.YtmeapdchnnpceaaDoorW.PrintMore
attribute [local go_sem] min2_int min_two
set_option linter.unusedVariables false
set_option linter.unusedSimpArgs false
def short_of.f (a0 : Int) : Option (Int × Int × Int × Bool) := if a0 = 32 then (some (23, (-149), 2139095040, true)) else (if a0 = 64 then (some (52, (-1074), 9218868437227405312, true)) else (some (0, 0, 0, false)))
set_option maxHeartbeats 8000000 in
set_option maxRecDepth 100000 in
theorem short_of.calls (a0 : Int) (r1 : Int) (r2 : Int) (r3 : Int) (r4 : Bool) (w : World) (h : short_of.f a0 = some (r1, r2, r3, r4)) :
  Calls Tryd.prog 27 #[.int .i64 a0] w fun e w' => e = .returned (.tuple #[.agg #[.int .i64 r1, .int .i64 r2, .int .u64 r3], .bool r4]) ∧ Below w.heap.size w w' := by
 have hu50 := Tryd.underlying50
 have HB := Aside0.mk (Below.refl w.heap.size w)
 have H : (if a0 = 32 then (some (23, (-149), 2139095040, true)) else (if a0 = 64 then (some (52, (-1074), 9218868437227405312, true)) else (some (0, 0, 0, false)))) = some (r1, r2, r3, r4) := h
 clear h
 go_enter Tryd.func27, Tryd.ntmps27
 go_upto_if 5 with (first | ((with_reducible refine gate_dst (N := 2) rfl ?_); refine box_event rfl (N := 2) rfl (cs := #[.int .i64 0, .int .i64 0, .int .u64 0]) (t := 50) gz ?_; intro gb182 hg w2 hbox hb; have GE182 := gN bz hg; have BK182 := Aside0.mk hbox; replace HB := bN bz hb; clear hb hbox hg))
 (try simp only [Act.put, List.setIfInBounds_toArray, List.set_cons_zero, List.set_cons_succ])
 by_cases c3 : a0 = 32
 ·rw [if_pos c3] at H
  obtain ⟨c3b0, c3b1⟩ := eT c3
  clear c3
  try first | rw [c3b0] | rw [c3b1]
  simp only [Option.some.injEq, Prod.mk.injEq] at H
  obtain ⟨rfl, rfl, rfl, rfl⟩ := H
  obtain ⟨hcz4_0, hcz4_1, hcz4_2, hfz4_0, hfz4_1, hfz4_2⟩ := cz3 (W := w2) BK182
  go_wp2
  refine bodyPost_ret (results_ct rfl _ _ gb182 50 #[.int .i64 23, .int .i64 (-149), .int .u64 2139095040] (0, 0) _ rfl bk Tryd.underlying50 rfl (by kernel_rfl)) rfl ?_
  exact ⟨ez, bz⟩
 ·rw [if_neg c3] at H
  obtain ⟨c3b0, c3b1⟩ := eF c3
  try first | rw [c3b0] | rw [c3b1]
  by_cases c5 : a0 = 64
  ·rw [if_pos c5] at H
   obtain ⟨c5b0, c5b1⟩ := eT c5
   clear c5
   simp only [Option.some.injEq, Prod.mk.injEq] at H
   obtain ⟨rfl, rfl, rfl, rfl⟩ := H
   obtain ⟨hcz6_0, hcz6_1, hcz6_2, hfz6_0, hfz6_1, hfz6_2⟩ := cz3 (W := w2) BK182
   go_wp2
   refine bodyPost_ret (results_ct rfl _ _ gb182 50 #[.int .i64 52, .int .i64 (-1074), .int .u64 9218868437227405312] (0, 0) _ rfl bk Tryd.underlying50 rfl (by kernel_rfl)) rfl ?_
   exact ⟨ez, bz⟩
  ·rw [if_neg c5] at H
   obtain ⟨c5b0, c5b1⟩ := eF c5
   simp only [Option.some.injEq, Prod.mk.injEq] at H
   obtain ⟨rfl, rfl, rfl, rfl⟩ := H
   obtain ⟨hcz7_0, hcz7_1, hcz7_2, hfz7_0, hfz7_1, hfz7_2⟩ := cz3 (W := w2) BK182
   go_wp2
   refine bodyPost_ret (results_ct rfl _ _ gb182 50 #[.int .i64 0, .int .i64 0, .int .u64 0] (0, 0) _ rfl bk Tryd.underlying50 rfl (by kernel_rfl)) rfl ?_
   exact ⟨ez, bz⟩
end Go.Proofs.YtmeapdchnnpceaaDoor.Fn
end
section
namespace Go.Proofs.YtmeapdchnnpceaaDoor.Fn
open Go.RowKit Go.Proofs.YtmeapdchnnpceaaDoorW.PrintWords Go.Proofs.YtmeapdchnnpceaaDoorW.PrintLast Go.Proofs.YtmeapdchnnpceaaDoorW.PrintMore
attribute [local go_sem] min2_int min_two
set_option linter.unusedVariables false
set_option linter.unusedSimpArgs false
def short_shape_value.f (a0_0 : Int) (a0_1 : Int) (a0_2 : Int) (a1 : Int) : Option (Int × Int) := if 0 ≤ a0_0 then (if (wrap64 (shr .u64 a1 a0_0)) = 0 then (some (Go.bits .and .u64 a1 (IntKind.u64.wrap ((shl .u64 1 a0_0) - 1)), a0_1)) else (some (Go.bits .or .u64 (Go.bits .and .u64 a1 (IntKind.u64.wrap ((shl .u64 1 a0_0) - 1))) (shl .u64 1 a0_0), wrap64 ((wrap64 (a0_1 + (wrap64 (shr .u64 a1 a0_0)))) - 1)))) else (none)
set_option maxHeartbeats 8000000 in
set_option maxRecDepth 100000 in
theorem short_shape_value.calls (a0_0 : Int) (a0_1 : Int) (a0_2 : Int) (a1 : Int) (r1 : Int) (r2 : Int) (w : World) (h : short_shape_value.f a0_0 a0_1 a0_2 a1 = some (r1, r2)) :
  Calls Tryd.prog 28 #[.agg #[.int .i64 a0_0, .int .i64 a0_1, .int .u64 a0_2], .int .u64 a1] w fun e w' => e = .returned (.tuple #[.int .u64 r1, .int .i64 r2]) ∧ Below w.heap.size w w' := by
 have hu50 := Tryd.underlying50
 have HB := Aside0.mk (Below.refl w.heap.size w)
 have H : (if 0 ≤ a0_0 then (if (wrap64 (shr .u64 a1 a0_0)) = 0 then (some (Go.bits .and .u64 a1 (IntKind.u64.wrap ((shl .u64 1 a0_0) - 1)), a0_1)) else (some (Go.bits .or .u64 (Go.bits .and .u64 a1 (IntKind.u64.wrap ((shl .u64 1 a0_0) - 1))) (shl .u64 1 a0_0), wrap64 ((wrap64 (a0_1 + (wrap64 (shr .u64 a1 a0_0)))) - 1)))) else (none)) = some (r1, r2) := h
 clear h
 by_cases c3 : 0 ≤ a0_0
 ·rw [if_pos c3] at H
  have c3b0 := eq_true c3
  have c3b1 : decide (0 ≤ a0_0) = true := decide_eq_true c3
  clear c3
  obtain ⟨ji4, hji4⟩ : ∃ j_ : Int, (shr .u64 a1 a0_0) = j_ := ⟨_, rfl⟩
  (first | rw [hji4] at H | simp only [hji4] at H)
  have hji4_ : (a1 / 2 ^ min a0_0.toNat 64) = ji4 := hji4
  have hji4z : a0_0 ≤ 64 → (a1 / 2 ^ a0_0.toNat) = ji4 := shr_small hji4
  have c5b0 := eq_true (of_decide_eq_true (by first | (with_reducible assumption) | assumption) : 0 ≤ a0_0)
  obtain ⟨ji6, hji6⟩ : ∃ j_ : Int, (shl .u64 1 a0_0) = j_ := ⟨_, rfl⟩
  (first | rw [hji6] at H | simp only [hji6] at H)
  have hji6_ : (IntKind.u64.wrap (1 * 2 ^ min a0_0.toNat 64)) = ji6 := hji6
  have hji6z : a0_0 ≤ 64 → (IntKind.u64.wrap (1 * 2 ^ a0_0.toNat)) = ji6 := shl_small hji6
  have hji6u : (IntKind.u64.wrap (2 ^ min a0_0.toNat 64)) = ji6 := by have h_ := hji6_; rw [Int.one_mul] at h_; exact h_
  have hji6v : a0_0 ≤ 64 → (IntKind.u64.wrap (2 ^ a0_0.toNat)) = ji6 := fun hle_ => by have h_ := hji6z hle_; rw [Int.one_mul] at h_; exact h_
  go_enter Tryd.func28, Tryd.ntmps28
  go_upto_if 20 with (first | ((with_reducible refine gate_dst (N := 2) rfl ?_); refine box_event rfl (N := 2) rfl (cs := #[.int .i64 a0_0, .int .i64 a0_1, .int .u64 a0_2]) (t := 50) gz ?_; intro gb164 hg w7 hbox hb; have GW164 := gN bz hg; have GE164 := gN bz hg; have BK164 := Aside0.mk hbox; replace HB := bN bz hb; clear hb hbox hg; obtain ⟨hcz8_0, hcz8_1, hcz8_2, hfz8_0, hfz8_1, hfz8_2⟩ := cz3 (W := w7) BK164))
  repeat (go_quiet (first | ((with_reducible refine gate_dst (N := 2) rfl ?_); refine box_event rfl (N := 2) rfl (cs := #[.int .i64 a0_0, .int .i64 a0_1, .int .u64 a0_2]) (t := 50) gz ?_; intro gb164 hg w7 hbox hb; have n0_ := Aside0.mk (below_step bz hb); have n1_ := Aside0.mk (hbox); have n2_ := Aside0.mk ((by rw [hg]; exact (below_size bz) : w.heap.size ≤ gb164)); have n3_ := Aside0.mk ((by rw [hg]; exact (below_size bz) : w.heap.size ≤ gb164)); clear HB; have HB := n0_; have BK164 := n1_; have GW164 := n2_; have GE164 := n3_; clear n0_ n1_ n2_ n3_; clear hb hbox hg; obtain ⟨hcz8_0, hcz8_1, hcz8_2, hfz8_0, hfz8_1, hfz8_2⟩ := cz3 (W := w7) BK164)); go_upto_if 20 with (first | ((with_reducible refine gate_dst (N := 2) rfl ?_); refine box_event rfl (N := 2) rfl (cs := #[.int .i64 a0_0, .int .i64 a0_1, .int .u64 a0_2]) (t := 50) gz ?_; intro gb164 hg w7 hbox hb; have n0_ := Aside0.mk (below_step bz hb); have n1_ := Aside0.mk (hbox); have n2_ := Aside0.mk ((by rw [hg]; exact (below_size bz) : w.heap.size ≤ gb164)); have n3_ := Aside0.mk ((by rw [hg]; exact (below_size bz) : w.heap.size ≤ gb164)); clear HB; have HB := n0_; have BK164 := n1_; have GW164 := n2_; have GE164 := n3_; clear n0_ n1_ n2_ n3_; clear hb hbox hg; obtain ⟨hcz8_0, hcz8_1, hcz8_2, hfz8_0, hfz8_1, hfz8_2⟩ := cz3 (W := w7) BK164)))
  (try simp only [Act.put, List.setIfInBounds_toArray, List.set_cons_zero, List.set_cons_succ])
  by_cases c9 : (wrap64 (ji4)) = 0
  ·rw [if_pos c9] at H
   obtain ⟨c9b0, c9b1⟩ := eT c9
   clear c9
   (first | rw [c9b0] | rw [c9b1] | (simp only [i64_w, i32_w]; rw [c9b0]) | skip)
   simp only [Option.some.injEq, Prod.mk.injEq] at H
   obtain ⟨rfl, rfl⟩ := H
   obtain ⟨hcz10_0, hcz10_1, hcz10_2, hfz10_0, hfz10_1, hfz10_2⟩ := cz3 (W := w7) BK164
   go_wp2
   repeat (go_quiet (fail); try go_wp2)
   go_ret2
   exact ⟨by first | rfl | (simp [errW_none, errW_some] <;> rfl) | (simp only [← hji4, ← hji6]; first | rfl | (simp [errW_none, errW_some] <;> rfl)) | (simp [*, errW_none, errW_some] <;> rfl), bz⟩
  ·rw [if_neg c9] at H
   obtain ⟨c9b0, c9b1⟩ := eF c9
   (first | rw [c9b0] | rw [c9b1] | (simp only [i64_w, i32_w]; rw [c9b0]) | skip)
   have c11b0 := eq_true (of_decide_eq_true (by first | (with_reducible assumption) | assumption) : 0 ≤ a0_0)
   simp only [Option.some.injEq, Prod.mk.injEq] at H
   obtain ⟨rfl, rfl⟩ := H
   obtain ⟨hcz13_0, hcz13_1, hcz13_2, hfz13_0, hfz13_1, hfz13_2⟩ := cz3 (W := w7) BK164
   go_wp2
   repeat (go_quiet (fail); try go_wp2)
   go_ret2
   exact ⟨by first | rfl | (simp [errW_none, errW_some] <;> rfl) | (simp only [← hji4, ← hji6]; first | rfl | (simp [errW_none, errW_some] <;> rfl)) | (simp [*, errW_none, errW_some] <;> rfl), bz⟩
 ·rw [if_neg c3] at H
  exact absurd H (by simp)
end Go.Proofs.YtmeapdchnnpceaaDoor.Fn
end
section
namespace Go.Proofs.YtmeapdchnnpceaaDoor.Fn
open Go.RowKit Go.Proofs.YtmeapdchnnpceaaDoorW.PrintWords Go.Proofs.YtmeapdchnnpceaaDoorW.PrintLast Go.Proofs.YtmeapdchnnpceaaDoorW.PrintMore
attribute [local go_sem] min2_int min_two
set_option linter.unusedVariables false
set_option linter.unusedSimpArgs false
def short_Parts.f (a0 : Int) (a1 : Int) : Option (Bool × Int × Int × Int) := (short_of.f a1).bind fun bt183 => (if bt183.2.2.2 = true then (if 0 ≤ (wrap64 (a1 - 1)) then (if (Go.bits .and .u64 a0 (IntKind.u64.wrap ((shl .u64 1 (wrap64 (a1 - 1))) - 1))) = bt183.2.2.1 then (some (((Go.bits .and .u64 (shr .u64 a0 (wrap64 (a1 - 1))) 1) == 1), 0, 0, 1)) else (if (Go.bits .and .u64 a0 (IntKind.u64.wrap ((shl .u64 1 (wrap64 (a1 - 1))) - 1))) > bt183.2.2.1 then (some (((Go.bits .and .u64 (shr .u64 a0 (wrap64 (a1 - 1))) 1) == 1), 0, 0, 2)) else ((short_shape_value.f bt183.1 bt183.2.1 bt183.2.2.1 (Go.bits .and .u64 a0 (IntKind.u64.wrap ((shl .u64 1 (wrap64 (a1 - 1))) - 1)))).bind fun bt188 => (some (((Go.bits .and .u64 (shr .u64 a0 (wrap64 (a1 - 1))) 1) == 1), bt188.1, bt188.2, 0))))) else (none)) else (some (false, 0, 0, 3)))
set_option maxHeartbeats 8000000 in
set_option maxRecDepth 100000 in
theorem short_Parts.calls (a0 : Int) (a1 : Int) (r1 : Bool) (r2 : Int) (r3 : Int) (r4 : Int) (w : World) (h : short_Parts.f a0 a1 = some (r1, r2, r3, r4)) :
  Calls Tryd.prog 13 #[.int .u64 a0, .int .i64 a1] w fun e w' => e = .returned (.tuple #[.bool r1, .int .u64 r2, .int .i64 r3, .int .i64 r4]) ∧ Below w.heap.size w w' := by
 have hu50 := Tryd.underlying50
 have HB := Aside0.mk (Below.refl w.heap.size w)
 have H : ((short_of.f a1).bind fun bt183 => (if bt183.2.2.2 = true then (if 0 ≤ (wrap64 (a1 - 1)) then (if (Go.bits .and .u64 a0 (IntKind.u64.wrap ((shl .u64 1 (wrap64 (a1 - 1))) - 1))) = bt183.2.2.1 then (some (((Go.bits .and .u64 (shr .u64 a0 (wrap64 (a1 - 1))) 1) == 1), 0, 0, 1)) else (if (Go.bits .and .u64 a0 (IntKind.u64.wrap ((shl .u64 1 (wrap64 (a1 - 1))) - 1))) > bt183.2.2.1 then (some (((Go.bits .and .u64 (shr .u64 a0 (wrap64 (a1 - 1))) 1) == 1), 0, 0, 2)) else ((short_shape_value.f bt183.1 bt183.2.1 bt183.2.2.1 (Go.bits .and .u64 a0 (IntKind.u64.wrap ((shl .u64 1 (wrap64 (a1 - 1))) - 1)))).bind fun bt188 => (some (((Go.bits .and .u64 (shr .u64 a0 (wrap64 (a1 - 1))) 1) == 1), bt188.1, bt188.2, 0))))) else (none)) else (some (false, 0, 0, 3)))) = some (r1, r2, r3, r4) := h
 clear h
 replace H := bs H
 obtain ⟨⟨t183, t184, t185, t186⟩, A3, H⟩ := H
 dsimp only at H
 go_enter Tryd.func13, Tryd.ntmps13
 go_upto_if 20 with (first | ((with_reducible refine gate_callee (f := 27) rfl ?_); refine goesL_ (some 16) rfl rfl Tryd.func27 (by kernel_rfl) rfl #[.int .i64 a1] rfl lz ?_; (with_reducible refine (short_of.calls a1 t183 t184 t185 t186 _ A3.out).mono ?_); rintro e w4 ⟨rfl, hb⟩; refine ⟨_, rfl, ?_⟩; replace HB := bN bz hb; (try clear hb); (try clear hb2); (try clear hk); (try clear hi)) | ((with_reducible refine gate_dst (N := 8) rfl ?_); refine box_event rfl (N := 8) rfl (cs := #[.int .i64 0, .int .i64 0, .int .u64 0]) (t := 50) gz ?_; intro gb187 hg w5 hbox hb; have GE187 := gN bz hg; have BK187 := Aside0.mk hbox; replace HB := bN bz hb; clear hb hbox hg; obtain ⟨hcz6_0, hcz6_1, hcz6_2, hfz6_0, hfz6_1, hfz6_2⟩ := cz3 (W := w5) BK187))
 (try simp only [Act.put, List.setIfInBounds_toArray, List.set_cons_zero, List.set_cons_succ])
 by_cases c7 : t186 = true
 ·subst c7
  replace H := hT H
  obtain ⟨ji8, hji8⟩ : ∃ j_ : Int, (wrap64 (a1 - 1)) = j_ := ⟨_, rfl⟩
  (first | rw [hji8] at H | simp only [hji8] at H)
  have hji8w : (IntKind.i64.wrap (a1 - 1)) = ji8 := (i64_w _).trans hji8
  by_cases c9 : 0 ≤ (ji8)
  ·rw [if_pos c9] at H
   have c9b0 := eq_true c9
   have c9b1 : decide (0 ≤ (ji8)) = true := decide_eq_true c9
   clear c9
   obtain ⟨ji10, hji10⟩ : ∃ j_ : Int, (shr .u64 a0 (ji8)) = j_ := ⟨_, rfl⟩
   (first | rw [hji10] at H | simp only [hji10] at H)
   have hji10_ : (a0 / 2 ^ min (ji8).toNat 64) = ji10 := hji10
   have hji10z : (ji8) ≤ 64 → (a0 / 2 ^ (ji8).toNat) = ji10 := shr_small hji10
   have c11b0 := eq_true (of_decide_eq_true (by first | (with_reducible assumption) | assumption) : 0 ≤ (ji8))
   obtain ⟨ji12, hji12⟩ : ∃ j_ : Int, (shl .u64 1 (ji8)) = j_ := ⟨_, rfl⟩
   (first | rw [hji12] at H | simp only [hji12] at H)
   have hji12_ : (IntKind.u64.wrap (1 * 2 ^ min (ji8).toNat 64)) = ji12 := hji12
   have hji12z : (ji8) ≤ 64 → (IntKind.u64.wrap (1 * 2 ^ (ji8).toNat)) = ji12 := shl_small hji12
   have hji12u : (IntKind.u64.wrap (2 ^ min (ji8).toNat 64)) = ji12 := by have h_ := hji12_; rw [Int.one_mul] at h_; exact h_
   have hji12v : (ji8) ≤ 64 → (IntKind.u64.wrap (2 ^ (ji8).toNat)) = ji12 := fun hle_ => by have h_ := hji12z hle_; rw [Int.one_mul] at h_; exact h_
   by_cases c13 : (Go.bits .and .u64 a0 (IntKind.u64.wrap ((ji12) - 1))) = t185
   ·rw [if_pos c13] at H
    obtain ⟨c13b0, c13b1⟩ := eT c13
    clear c13
    (first | rw [c13b0] | rw [c13b1] | (simp only [i64_w, i32_w]; rw [c13b0]) | skip)
    simp only [Option.some.injEq, Prod.mk.injEq] at H
    obtain ⟨rfl, rfl, rfl, rfl⟩ := H
    obtain ⟨hcz14_0, hcz14_1, hcz14_2, hfz14_0, hfz14_1, hfz14_2⟩ := cz3 (W := w5) BK187
    go_wp2
    refine bodyPost_ret (results_list (rs := [.tmp 4, .tmp 5, .tmp 6, .tmp 7]) rfl (by simp) (.tmp (.tmp (.tmp (.tmp .nil))))) rfl ?_
    exact ⟨by first | rfl | (simp [errW_none, errW_some] <;> rfl) | (simp only [← hji8, ← hji10, ← hji12]; first | rfl | (simp [errW_none, errW_some] <;> rfl)) | (simp [*, errW_none, errW_some] <;> rfl), bz⟩
   ·rw [if_neg c13] at H
    obtain ⟨c13b0, c13b1⟩ := eF c13
    (first | rw [c13b0] | rw [c13b1] | (simp only [i64_w, i32_w]; rw [c13b0]) | skip)
    by_cases c15 : (Go.bits .and .u64 a0 (IntKind.u64.wrap ((ji12) - 1))) > t185
    ·rw [if_pos c15] at H
     have c15b0 : decide (t185 < (Go.bits .and .u64 a0 (IntKind.u64.wrap ((ji12) - 1)))) = true := decide_eq_true c15
     clear c15
     simp only [Option.some.injEq, Prod.mk.injEq] at H
     obtain ⟨rfl, rfl, rfl, rfl⟩ := H
     obtain ⟨hcz16_0, hcz16_1, hcz16_2, hfz16_0, hfz16_1, hfz16_2⟩ := cz3 (W := w5) BK187
     go_wp2
     refine bodyPost_ret (results_list (rs := [.tmp 4, .tmp 5, .tmp 6, .tmp 7]) rfl (by simp) (.tmp (.tmp (.tmp (.tmp .nil))))) rfl ?_
     exact ⟨by first | rfl | (simp [errW_none, errW_some] <;> rfl) | (simp only [← hji8, ← hji10, ← hji12]; first | rfl | (simp [errW_none, errW_some] <;> rfl)) | (simp [*, errW_none, errW_some] <;> rfl), bz⟩
    ·rw [if_neg c15] at H
     have c15b0 : decide (t185 < (Go.bits .and .u64 a0 (IntKind.u64.wrap ((ji12) - 1)))) = false := decide_eq_false c15
     clear c15
     replace H := bs H
     obtain ⟨⟨t188, t189⟩, A17, H⟩ := H
     dsimp only at H
     simp only [Option.some.injEq, Prod.mk.injEq] at H
     obtain ⟨rfl, rfl, rfl, rfl⟩ := H
     obtain ⟨hcz18_0, hcz18_1, hcz18_2, hfz18_0, hfz18_1, hfz18_2⟩ := cz3 (W := w5) BK187
     go_wp2_with (first | ((with_reducible refine gate_callee (f := 28) rfl ?_); refine goesL_ (some 36) rfl rfl Tryd.func28 (by kernel_rfl) rfl #[.agg #[.int .i64 t183, .int .i64 t184, .int .u64 t185], .int .u64 (Go.bits .and .u64 a0 (IntKind.u64.wrap ((ji12) - 1)))] rfl (by (try simp only [List.map_toArray, List.map_cons, List.map_nil]); first | done | (simp only [hji12]; rfl) | rfl | (simp only [List.length_drop, List.length_take]; rfl)) ?_; (with_reducible refine (short_shape_value.calls t183 t184 t185 (Go.bits .and .u64 a0 (IntKind.u64.wrap ((ji12) - 1))) t188 t189 _ A17.out).mono ?_); rintro e w19 ⟨rfl, hb⟩; refine ⟨_, rfl, ?_⟩; replace BK187 := kN (g := gb187) (cs := #[.int .i64 t183, .int .i64 t184, .int .u64 t185]) hb bk; replace HB := bN bz hb; (try clear hb); (try clear hb2); (try clear hk); (try clear hi)))
     refine bodyPost_ret (results_list (rs := [.tmp 4, .tmp 5, .tmp 6, .tmp 7]) rfl (by simp) (.tmp (.tmp (.tmp (.tmp .nil))))) rfl ?_
     exact ⟨by first | rfl | (simp [errW_none, errW_some] <;> rfl) | (simp only [← hji8, ← hji10, ← hji12]; first | rfl | (simp [errW_none, errW_some] <;> rfl)) | (simp [*, errW_none, errW_some] <;> rfl), bz⟩
  ·rw [if_neg c9] at H
   exact absurd H (by simp)
 ·replace c7 := Bool.eq_false_iff.mpr c7
  subst c7
  replace H := hF H
  simp only [Option.some.injEq, Prod.mk.injEq] at H
  obtain ⟨rfl, rfl, rfl, rfl⟩ := H
  go_wp2
  refine bodyPost_ret (results_list (rs := [.tmp 4, .tmp 5, .tmp 6, .tmp 7]) rfl (by simp) (.tmp (.tmp (.tmp (.tmp .nil))))) rfl ?_
  exact ⟨ez, bz⟩
end Go.Proofs.YtmeapdchnnpceaaDoor.Fn
end
section
namespace Go.Proofs.YtmeapdchnnpceaaDoor.Fn
open Go.RowKit Go.Proofs.YtmeapdchnnpceaaDoorW.PrintWords Go.Proofs.YtmeapdchnnpceaaDoorW.PrintLast Go.Proofs.YtmeapdchnnpceaaDoorW.PrintMore
attribute [local go_sem] min2_int min_two
set_option linter.unusedVariables false
set_option linter.unusedSimpArgs false
def platenref05_pow.l0 : Nat → Int → Int → Int → Option (Int)
 | 0, _, _, _ => none
 | k + 1, x0, x3, x4 => if x4 < x0 then (platenref05_pow.l0 k x0 (IntKind.u64.wrap (2 * x3)) (wrap64 (x4 + 1))) else (some x3)
def platenref05_pow.f (k : Nat) (a0 : Int) : Option (Int) := platenref05_pow.l0 k a0 1 0
set_option maxHeartbeats 8000000 in
set_option maxRecDepth 100000 in
theorem platenref05_pow.calls (k : Nat) (a0 : Int) (r : Int) (w : World) (h : platenref05_pow.f k a0 = some r) :
  Calls Tryd.prog 31 #[.int .i64 a0] w fun e w' => e = .returned (.int .u64 r) ∧ Drawn0 w w' := by
 have H : (platenref05_pow.l0 k a0 1 0) = some r := h
 clear h
 have H' := Aside0.mk H
 clear H
 go_enter Tryd.func31, Tryd.ntmps31
 go_wp2
 go_loopg [3, 4] k (fun kq v3 v4 w' => ∃ (x3_1 : Int) (x4_1 : Int), v3 = .int .u64 x3_1 ∧ v4 = .int .i64 x4_1 ∧ Aside0 (platenref05_pow.l0 kq a0 x3_1 x4_1 = some r) ∧ Aside0 (kq ≤ k) ∧ Drawn0 w w')
 case atStart => exact ⟨(1), (0), rz, rz, H', ⟨Nat.le_refl _⟩, by repeat (first | exact Drawn0.refl _ | apply Drawn0.step)⟩
 case round =>
  clear H'
  obtain ⟨x3_1, x4_1, rfl, rfl, HA, HK1, ⟨m1, rfl⟩⟩ := hrel
  cases gk with
  | zero => exact absurd HA.out (by simp [platenref05_pow.l0])
  | succ k1 =>
   have H := HA.out
   clear HA
   simp only [platenref05_pow.l0] at H
   by_cases c2 : x4_1 < a0
   ·rw [if_pos c2] at H
    have c2b0 := decide_eq_true c2
    clear c2
    have H' := Aside0.mk H
    clear H
    go_wp2
    go_roundg k1
    case measure => have := HK1.out; omega
    case rel => exact ⟨(IntKind.u64.wrap (2 * x3_1)), (wrap64 (x4_1 + 1)), rz, rz, H', ⟨by have := HK1.out; omega⟩, by repeat (first | exact Drawn0.refl _ | apply Drawn0.step)⟩
   ·rw [if_neg c2] at H
    have c2b0 := decide_eq_false c2
    clear c2
    obtain rfl := Option.some.inj H
    go_wp2
    go_ret
    exact ⟨by first | rfl | (simp; done) | (simp [*]; done), by repeat (first | exact Drawn0.refl _ | apply Drawn0.step)⟩
end Go.Proofs.YtmeapdchnnpceaaDoor.Fn
end
section
namespace Go.Proofs.YtmeapdchnnpceaaDoor.Fn
open Go.RowKit Go.Proofs.YtmeapdchnnpceaaDoorW.PrintWords Go.Proofs.YtmeapdchnnpceaaDoorW.PrintLast Go.Proofs.YtmeapdchnnpceaaDoorW.PrintMore
attribute [local go_sem] min2_int min_two
set_option linter.unusedVariables false
set_option linter.unusedSimpArgs false
def platenref05_Shape.f (a0 : Int) : Option (Int × Int × Int) := if a0 = 32 then (some (23, 8, (-149))) else (some (52, 11, (-1074)))
set_option maxHeartbeats 8000000 in
set_option maxRecDepth 100000 in
theorem platenref05_Shape.calls (a0 : Int) (r1 : Int) (r2 : Int) (r3 : Int) (w : World) (h : platenref05_Shape.f a0 = some (r1, r2, r3)) :
  Calls Tryd.prog 30 #[.int .i64 a0] w fun e w' => e = .returned (.tuple #[.int .i64 r1, .int .i64 r2, .int .i64 r3]) ∧ Drawn0 w w' := by
 have H : (if a0 = 32 then (some (23, 8, (-149))) else (some (52, 11, (-1074)))) = some (r1, r2, r3) := h
 clear h
 by_cases c2 : a0 = 32
 ·rw [if_pos c2] at H
  obtain ⟨c2b0, c2b1⟩ := eT c2
  clear c2
  simp only [Option.some.injEq, Prod.mk.injEq] at H
  obtain ⟨rfl, rfl, rfl⟩ := H
  go_enter Tryd.func30, Tryd.ntmps30
  go_wp2
  go_ret3
  exact ⟨by first | rfl | (simp; done) | (simp [*]; done), by repeat (first | exact Drawn0.refl _ | apply Drawn0.step)⟩
 ·rw [if_neg c2] at H
  obtain ⟨c2b0, c2b1⟩ := eF c2
  simp only [Option.some.injEq, Prod.mk.injEq] at H
  obtain ⟨rfl, rfl, rfl⟩ := H
  go_enter Tryd.func30, Tryd.ntmps30
  go_wp2
  go_ret3
  exact ⟨by first | rfl | (simp; done) | (simp [*]; done), by repeat (first | exact Drawn0.refl _ | apply Drawn0.step)⟩
end Go.Proofs.YtmeapdchnnpceaaDoor.Fn
end
section
namespace Go.Proofs.YtmeapdchnnpceaaDoor.Fn
open Go.RowKit Go.Proofs.YtmeapdchnnpceaaDoorW.PrintWords Go.Proofs.YtmeapdchnnpceaaDoorW.PrintLast Go.Proofs.YtmeapdchnnpceaaDoorW.PrintMore
attribute [local go_sem] min2_int min_two
set_option linter.unusedVariables false
set_option linter.unusedSimpArgs false
def platenref05_Sized.f (a0 : Int) : Option (Bool) := if a0 = 32 then (some true) else (some (a0 == 64))
set_option maxHeartbeats 8000000 in
set_option maxRecDepth 100000 in
theorem platenref05_Sized.calls (a0 : Int) (r : Bool) (w : World) (h : platenref05_Sized.f a0 = some r) :
  Calls Tryd.prog 29 #[.int .i64 a0] w fun e w' => e = .returned (.bool r) ∧ Drawn0 w w' := by
 have H : (if a0 = 32 then (some true) else (some (a0 == 64))) = some r := h
 clear h
 by_cases c2 : a0 = 32
 ·rw [if_pos c2] at H
  obtain ⟨c2b0, c2b1⟩ := eT c2
  clear c2
  obtain rfl := Option.some.inj H
  go_enter Tryd.func29, Tryd.ntmps29
  go_wp2
  go_ret
  exact ⟨by first | rfl | (simp; done) | (simp [*]; done), by repeat (first | exact Drawn0.refl _ | apply Drawn0.step)⟩
 ·rw [if_neg c2] at H
  obtain ⟨c2b0, c2b1⟩ := eF c2
  obtain rfl := Option.some.inj H
  go_enter Tryd.func29, Tryd.ntmps29
  go_wp2
  go_ret
  exact ⟨by first | rfl | (simp; done) | (simp [*]; done), by repeat (first | exact Drawn0.refl _ | apply Drawn0.step)⟩
end Go.Proofs.YtmeapdchnnpceaaDoor.Fn
end
section
namespace Go.Proofs.YtmeapdchnnpceaaDoor.Pure
open Go.RowKit Go.Proofs.YtmeapdchnnpceaaDoor.Fn Go.Proofs.YtmeapdchnnpceaaDoorW.PrintWords
set_option linter.unusedVariables false
set_option linter.unusedSimpArgs false
def szB (wide : Bool) : Int := if wide then 64 else 32
def ff (wide : Bool) : Nat := if wide then 52 else 23
def ll (wide : Bool) : Nat := if wide then 1074 else 149
def ii (wide : Bool) : Nat := if wide then 9218868437227405312 else 2139095040
def tt (wide : Bool) : Nat := if wide then 9223372036854775808 else 2147483648
theorem size_two {n : Int} (h : n = 32 ∨ n = 64) : ∃ wide, n = szB wide := by
  rcases h with rfl | rfl
  · exact ⟨false, rfl⟩
  · exact ⟨true, rfl⟩
theorem of_eq' (wide : Bool) : short_of.f (szB wide) = some ((ff wide : Int), -(ll wide : Int), (ii wide : Int), true) := by
  cases wide <;> simp [short_of.f, szB, ff, ll, ii]
theorem of_no {n : Int} (h1 : n ≠ 32) (h2 : n ≠ 64) : short_of.f n = some (0, 0, 0, false) := by
  unfold short_of.f
  rw [if_neg h1, if_neg h2]
theorem and_mask (j p : Nat) (hj : j ≤ 64) (hp : p < 18446744073709551616) : Go.bits .and .u64 (p : Int) ((2 ^ j - 1 : Nat) : Int) = ((p % 2 ^ j : Nat) : Int) := by
  have h2 : 2 ^ j ≤ 2 ^ 64 := Nat.pow_le_pow_right (by omega) hj
  have hpos : 0 < 2 ^ j := Nat.pow_pos (by omega)
  have e : (2 : Nat) ^ 64 = 18446744073709551616 := by decide
  rw [u64_and_nat _ _ hp (by omega), Nat.and_two_pow_sub_one_eq_mod]
theorem or_add (j x : Nat) (hj : j ≤ 63) (hx : x < 2 ^ j) : Go.bits .or .u64 (x : Int) ((2 ^ j : Nat) : Int) = ((x + 2 ^ j : Nat) : Int) := by
  have h2 : 2 ^ j ≤ 2 ^ 63 := Nat.pow_le_pow_right (by omega) hj
  have e : (2 : Nat) ^ 63 = 9223372036854775808 := by decide
  rw [u64_or_nat _ _ (by omega) (by omega), Nat.or_comm]
  have := Nat.two_pow_add_eq_or_of_lt hx 1
  rw [Nat.mul_one] at this
  rw [← this, Nat.add_comm]
theorem ff_lt (wide : Bool) : ff wide ≤ 52 := by cases wide <;> simp [ff]
theorem shr_eq (p j : Nat) (hj : j ≤ 64) : shr .u64 (p : Int) (j : Int) = ((p / 2 ^ j : Nat) : Int) := by
  unfold shr
  rw [Int.toNat_natCast, show min j (IntKind.u64.bits) = j from Nat.min_eq_left (by simpa [IntKind.bits] using hj)]
  simp
theorem shl_one (j : Nat) (hj : j ≤ 63) : shl .u64 1 (j : Int) = ((2 ^ j : Nat) : Int) := by
  have h2 : 2 ^ j ≤ 2 ^ 63 := Nat.pow_le_pow_right (by omega) hj
  have e : (2 : Nat) ^ 63 = 9223372036854775808 := by decide
  unfold shl
  rw [Int.toNat_natCast, show min j (IntKind.u64.bits) = j from Nat.min_eq_left (by simp [IntKind.bits]; omega), Int.one_mul]
  rw [show ((2 : Int) ^ j) = ((2 ^ j : Nat) : Int) by simp]
  generalize 2 ^ j = P at *
  exact u64_id (by omega) (by omega)
theorem mask_one (j : Nat) (hj : j ≤ 63) : IntKind.u64.wrap (shl .u64 1 (j : Int) - 1) = ((2 ^ j - 1 : Nat) : Int) := by
  have hpos : 0 < 2 ^ j := Nat.pow_pos (by omega)
  have h2 : 2 ^ j ≤ 2 ^ 63 := Nat.pow_le_pow_right (by omega) hj
  have e : (2 : Nat) ^ 63 = 9223372036854775808 := by decide
  rw [shl_one j hj]
  generalize 2 ^ j = P at *
  rw [u64_id (x := (P : Int) - 1) (by omega) (by omega)]
  omega
theorem value_eq (wide : Bool) (p : Nat) (hp : p < 9223372036854775808) :
    short_shape_value.f (ff wide : Int) (-(ll wide : Int)) (ii wide : Int) (p : Int) = some ((fM (ff wide) p : Int), (fE (ff wide) p : Int) - (ll wide : Int)) := by
  have hf := ff_lt wide
  have hl : ll wide ≤ 1074 := by cases wide <;> simp [ll]
  unfold short_shape_value.f
  rw [if_pos (by omega), shr_eq p _ (by omega), mask_one _ (by omega), and_mask _ _ (by omega) (by omega), shl_one _ (by omega)]
  have hd : p / 2 ^ ff wide ≤ p := Nat.div_le_self _ _
  unfold fM fE
  have hpos : 0 < 2 ^ ff wide := Nat.pow_pos (by omega)
  have hm := Nat.mod_lt p hpos
  by_cases c : p / 2 ^ ff wide = 0
  · rw [if_pos c, c, if_pos (by simp [wrap64])]
    congr 2
    omega
  · rw [if_neg c, or_add _ _ (by omega) hm]
    generalize p / 2 ^ ff wide = q at *
    rw [if_neg (by rw [wrap_id (by omega) (by omega)]; omega), wrap_id (x := (q : Int)) (by omega) (by omega), wrap_id (x := -(ll wide : Int) + (q : Int)) (by omega) (by omega), wrap_id (by omega) (by omega)]
    congr 2
    omega
def bareN (wide : Bool) (a : Nat) : Nat := a % tt wide
def partsS (wide : Bool) (a : Nat) : Bool × Int × Int × Int :=
  ((a / tt wide % 2 == 1 : Bool), if bareN wide a < ii wide then ((fM (ff wide) (bareN wide a) : Int), (fE (ff wide) (bareN wide a) : Int) - (ll wide : Int), 0) else (0, 0, if bareN wide a = ii wide then 1 else 2))
theorem tt_pow (wide : Bool) : ∃ j : Nat, j ≤ 63 ∧ tt wide = 2 ^ j ∧ wrap64 (szB wide - 1) = (j : Int) := by
  cases wide
  · exact ⟨31, by omega, by decide, by simp [szB, wrap64]⟩
  · exact ⟨63, by omega, by decide, by simp [szB, wrap64]⟩
theorem tt_le (wide : Bool) : 0 < tt wide ∧ tt wide ≤ 9223372036854775808 := by cases wide <;> simp [tt]
theorem ii_lt (wide : Bool) : 0 < ii wide ∧ ii wide < tt wide ∧ ii wide ≤ 9218868437227405312 := by cases wide <;> simp [ii, tt]
theorem neg_eq (wide : Bool) (x : Nat) : (((x % 2 : Nat) : Int) == 1) = (x % 2 == 1 : Bool) := by
  rw [Bool.eq_iff_iff]
  simp
  omega
theorem parts_eq (wide : Bool) (a : Nat) (ha : a < 18446744073709551616) : short_Parts.f (a : Int) (szB wide) = some (partsS wide a) := by
  obtain ⟨j, hj, ht, hw⟩ := tt_pow wide
  have hmt := Nat.mod_lt a (tt_le wide).1
  have htt := (tt_le wide).2
  unfold short_Parts.f
  rw [of_eq']
  simp only [Option.bind_some]
  rw [if_pos trivial, hw, if_pos (by omega), mask_one _ hj, and_mask _ _ (by omega) ha, ← ht, shr_eq _ _ (by omega), ← ht]
  rw [show (1 : Int) = ((2 ^ 1 - 1 : Nat) : Int) from rfl, and_mask _ _ (by omega) (Nat.lt_of_le_of_lt (Nat.div_le_self _ _) ha), value_eq wide _ (by omega)]
  simp only [Option.bind_some]
  unfold partsS bareN
  rw [show (((2 ^ 1 - 1 : Nat)) : Int) = 1 from rfl, show (2 : Nat) ^ 1 = 2 from rfl, neg_eq wide]
  generalize a % tt wide = p at *
  by_cases c1 : p = ii wide
  · rw [if_pos (by omega), if_neg (by omega), if_pos c1]
  · rw [if_neg (by omega)]
    by_cases c2 : p < ii wide
    · rw [if_neg (by omega), if_pos c2]
    · rw [if_pos (by omega), if_neg c2, if_neg c1]
theorem pow_l0 (n : Nat) (hn : n ≤ 63) : ∀ d i : Nat, i + d = n → Ev (fun k => platenref05_pow.l0 k (n : Int) ((2 ^ i : Nat) : Int) (i : Int)) ((2 ^ n : Nat) : Int) := by
  intro d
  induction d with
  | zero =>
    intro i hi
    obtain rfl : i = n := by omega
    refine Ev.step (f := fun _ => some ((2 ^ i : Nat) : Int)) (fun k => ?_) (Ev.now _)
    simp only [platenref05_pow.l0]
    rw [if_neg (by omega)]
  | succ d ih =>
    intro i hi
    have h2 : 2 ^ (i + 1) ≤ 2 ^ 63 := Nat.pow_le_pow_right (by omega) (by omega)
    have e : (2 : Nat) ^ 63 = 9223372036854775808 := by decide
    refine Ev.step (f := fun k => platenref05_pow.l0 k (n : Int) ((2 ^ (i + 1) : Nat) : Int) ((i + 1 : Nat) : Int)) (fun k => ?_) (ih (i + 1) (by omega))
    simp only [platenref05_pow.l0]
    rw [if_pos (by omega), wrap_id (by omega) (by omega)]
    rw [Nat.pow_succ] at h2 ⊢
    generalize 2 ^ i = P at *
    rw [u64_id (by omega) (by omega)]
    congr 1
    omega
theorem pow_eq (n : Nat) (hn : n ≤ 63) : Ev (fun k => platenref05_pow.f k (n : Int)) ((2 ^ n : Nat) : Int) := pow_l0 n hn n 0 (by omega)
theorem sized_eq (wide : Bool) : platenref05_Sized.f (szB wide) = some true := by cases wide <;> simp [platenref05_Sized.f, szB]
theorem sized_no {n : Int} (h1 : n ≠ 32) (h2 : n ≠ 64) : platenref05_Sized.f n = some false := by
  unfold platenref05_Sized.f
  rw [if_neg h1]
  simp [h2]
def ww (wide : Bool) : Nat := if wide then 11 else 8
theorem shape_eq (wide : Bool) : platenref05_Shape.f (szB wide) = some ((ff wide : Int), (ww wide : Int), -(ll wide : Int)) := by cases wide <;> simp [platenref05_Shape.f, szB, ff, ll, ww]
theorem u64N (x : Nat) (h : x ≤ 18446744073709551615) : IntKind.u64.wrap (x : Int) = (x : Int) := u64_id (by omega) (by omega)
theorem i64N (x : Nat) (h : x ≤ 9223372036854775807) : wrap64 (x : Int) = (x : Int) := wrap_id (by omega) (by omega)
theorem tdivN (a b : Nat) : Int.tdiv (a : Int) (b : Int) = ((a / b : Nat) : Int) := by rw [tdiv_id (by omega)]; simp
theorem tmodN (a b : Nat) : Int.tmod (a : Int) (b : Int) = ((a % b : Nat) : Int) := by rw [tmod_id (by omega)]; simp
theorem ff_ww (wide : Bool) : 0 < 2 ^ ff wide ∧ 0 < 2 ^ ww wide ∧ 2 ^ ww wide ≤ 2048 ∧ 2 ^ ff wide ≤ 4503599627370496 ∧ tt wide = 2 ^ ff wide * 2 ^ ww wide ∧ ii wide = (2 ^ ww wide - 1) * 2 ^ ff wide ∧ ∃ j : Nat, j ≤ 63 ∧ wrap64 ((ff wide : Int) + (ww wide : Int)) = (j : Int) ∧ 2 ^ j = tt wide := by
  cases wide
  · exact ⟨by decide, by decide, by decide, by decide, by decide, by decide, 31, by omega, by simp [ff, ww, wrap64], by decide⟩
  · exact ⟨by decide, by decide, by decide, by decide, by decide, by decide, 63, by omega, by simp [ff, ww, wrap64], by decide⟩
theorem ww_le (wide : Bool) : ww wide ≤ 63 := by cases wide <;> simp [ww]
theorem ll_le (wide : Bool) : ll wide ≤ 1074 := by cases wide <;> simp [ll]
end Go.Proofs.YtmeapdchnnpceaaDoor.Pure
end
section
namespace Go.Proofs.YtmeapdchnnpceaaDoor.Fn
open Go.RowKit Go.Proofs.YtmeapdchnnpceaaDoorW.PrintWords Go.Proofs.YtmeapdchnnpceaaDoorW.PrintLast Go.Proofs.YtmeapdchnnpceaaDoorW.PrintMore
attribute [local go_sem] min2_int min_two
set_option linter.unusedVariables false
set_option linter.unusedSimpArgs false
def short_cmp.f (k : Nat) (a0_0 : ByteArray) (a0_1 : Int) (a1_0 : ByteArray) (a1_1 : Int) : Option (Int) := (bigdec_Cmp.f k a0_0 a0_1 a1_0 a1_1).bind fun bt138 => (some bt138.1)
set_option maxHeartbeats 8000000 in
set_option maxRecDepth 100000 in
theorem short_cmp.calls (k : Nat) (a0_0 : ByteArray) (a0_1 : Int) (a1_0 : ByteArray) (a1_1 : Int) (r : Int) (w : World) (h : short_cmp.f k a0_0 a0_1 a1_0 a1_1 = some r) :
  Calls Tryd.prog 34 #[.agg #[.string a0_0, .int .i64 a0_1], .agg #[.string a1_0, .int .i64 a1_1]] w fun e w' => e = .returned (.int .i64 r) ∧ Below w.heap.size w w' := by
 have hu28 := Tryd.underlying28
 have HB := Aside0.mk (Below.refl w.heap.size w)
 have H : ((bigdec_Cmp.f k a0_0 a0_1 a1_0 a1_1).bind fun bt138 => (some bt138.1)) = some r := h
 clear h
 replace H := bs H
 obtain ⟨⟨t138, t139⟩, A3, H⟩ := H
 dsimp only at H
 obtain rfl := Option.some.inj H
 go_enter Tryd.func34, Tryd.ntmps34
 go_wp2_with (first | ((with_reducible refine gate_dst (N := 2) rfl ?_); refine box_event rfl (N := 2) rfl (cs := #[.string a0_0, .int .i64 a0_1]) (t := 28) gz ?_; intro gb136 hg w4 hbox hb; have GE136 := gN bz hg; have BK136 := Aside0.mk hbox; replace HB := bN bz hb; clear hb hbox hg) | ((with_reducible refine gate_dst (N := 3) rfl ?_); refine box_event rfl (N := 3) rfl (cs := #[.string a1_0, .int .i64 a1_1]) (t := 28) gz ?_; intro gb137 hg w5 hbox hb; have GE137 := gN bz hg; have NB136_137 := lN (g := gb136) (cs := #[.string a0_0, .int .i64 a0_1]) hg bk; have NB137_136 := rN (g := gb136) (cs := #[.string a0_0, .int .i64 a0_1]) hg bk; replace BK136 := kN (g := gb136) (cs := #[.string a0_0, .int .i64 a0_1]) hb bk; have BK137 := Aside0.mk hbox; replace HB := bN bz hb; clear hb hbox hg; have hnb6 := NB136_137.out; have hnc6 := NB137_136.out; obtain ⟨hcz7_0, hcz7_1, hfz7_0, hfz7_1⟩ := cz2 (W := w5) BK136; obtain ⟨hcz8_0, hcz8_1, hfz8_0, hfz8_1⟩ := cz2 (W := w5) BK137) | ((with_reducible refine gate_callee (f := 26) rfl ?_); refine goesL_ (some 10) rfl rfl Tryd.func26 (by kernel_rfl) rfl #[.agg #[.string a0_0, .int .i64 a0_1], .agg #[.string a1_0, .int .i64 a1_1]] rfl lz ?_; (with_reducible refine (bigdec_Cmp.calls k a0_0 a0_1 a1_0 a1_1 t138 t139 _ A3.out).mono ?_); rintro e w9 ⟨rfl, hb⟩; refine ⟨_, rfl, ?_⟩; replace BK136 := kN (g := gb136) (cs := #[.string a0_0, .int .i64 a0_1]) hb bk; replace BK137 := kN (g := gb137) (cs := #[.string a1_0, .int .i64 a1_1]) hb bk; replace HB := bN bz hb; (try clear hb); (try clear hb2); (try clear hk); (try clear hi)))
 go_ret
 exact ⟨ez, bz⟩
end Go.Proofs.YtmeapdchnnpceaaDoor.Fn
end
section
namespace Go.Proofs.YtmeapdchnnpceaaDoor.Fn
open Go.RowKit Go.Proofs.YtmeapdchnnpceaaDoorW.PrintWords Go.Proofs.YtmeapdchnnpceaaDoorW.PrintLast Go.Proofs.YtmeapdchnnpceaaDoorW.PrintMore
attribute [local go_sem] min2_int min_two
set_option linter.unusedVariables false
set_option linter.unusedSimpArgs false
mutual
def platenref05_less.j0 : Nat → List Int → List Int → Int → Option (Bool)
 | 0, _, _, _ => none
 | k + 1, x0, x1, x5 => platenref05_less.l0 k x0 x1 (wrap64 (x5 - 1))
def platenref05_less.l0 : Nat → List Int → List Int → Int → Option (Bool)
 | 0, _, _, _ => none
 | k + 1, x0, x1, x6 => if x6 ≥ 0 then (if x6 < (x0.length : Int) then (if 0 ≤ x6 then (platenref05_less.j2 k x0 x1 x6 (rd x0 x6) 0) else (none)) else (platenref05_less.j2 k x0 x1 x6 0 0)) else (some false)
def platenref05_less.j2 : Nat → List Int → List Int → Int → Int → Int → Option (Bool)
 | 0, _, _, _, _, _ => none
 | k + 1, x0, x1, x6, x7, x8 => if x6 < (x1.length : Int) then (if 0 ≤ x6 then (if x7 = (rd x1 x6) then (platenref05_less.l0 k x0 x1 (wrap64 (x6 - 1))) else (some (decide (x7 < (rd x1 x6))))) else (none)) else (if x7 = x8 then (platenref05_less.l0 k x0 x1 (wrap64 (x6 - 1))) else (some (decide (x7 < x8))))
end
def platenref05_less.f (k : Nat) (l0 : List Int) (l1 : List Int) : Option (Bool) := if (l1.length : Int) > (l0.length : Int) then (platenref05_less.j0 k l0 l1 (l1.length : Int)) else (platenref05_less.j0 k l0 l1 (l0.length : Int))
set_option maxHeartbeats 8000000 in
set_option maxRecDepth 100000 in
theorem platenref05_less.calls (k : Nat) (A0 : Option Addr) (c0 : Nat) (l0 : List Int) (A1 : Option Addr) (c1 : Nat) (l1 : List Int) (r : Bool) (w : World) (hr0 : Kd.C (Kd.int .u8) w A0 l0.length l0) (hc0 : l0.length ≤ c0) (hr1 : Kd.C (Kd.int .u8) w A1 l1.length l1) (hc1 : l1.length ≤ c1) (h : platenref05_less.f k l0 l1 = some r) :
  Calls Tryd.prog 40 #[.slice A0 l0.length c0, .slice A1 l1.length c1] w fun e w' => e = .returned (.bool r) ∧ Drawn0 w w' := by
 have HR0 := Aside0.mk hr0
 have HC0 := Aside0.mk hc0
 clear hr0 hc0
 have HR1 := Aside0.mk hr1
 have HC1 := Aside0.mk hc1
 clear hr1 hc1
 have H : (if (l1.length : Int) > (l0.length : Int) then (platenref05_less.j0 k l0 l1 (l1.length : Int)) else (platenref05_less.j0 k l0 l1 (l0.length : Int))) = some r := h
 clear h
 have HC3 := Aside0.mk H
 clear H
 go_enter Tryd.func40, Tryd.ntmps40
 go_upto_if 14 with (fail)
 go_cut [5] (fun v5 wc => ∃ (kq : Nat) (x5_2 : Int), v5 = .int .i64 x5_2 ∧ Aside0 (platenref05_less.j0 kq l0 l1 x5_2 = some r) ∧ Aside0 (kq ≤ k) ∧ Drawn0 w wc)
 case first =>
  have H := HC3.out
  clear HC3
  by_cases c4 : (l1.length : Int) > (l0.length : Int)
  ·rw [if_pos c4] at H
   have c4b0 : decide ((l0.length : Int) < (l1.length : Int)) = true := decide_eq_true c4
   have c4b1 : decide (l0.length < l1.length) = true := decide_eq_true (Int.ofNat_lt.mp c4)
   clear c4
   try first | rw [c4b0] | rw [c4b1]
   have H' := Aside0.mk H
   clear H
   go_wp2
   go_meet
   case rel => exact ⟨_, ((l1.length : Int)), rz, H', ⟨by first | omega | exact Nat.le_refl _⟩, by repeat (first | exact Drawn0.refl _ | apply Drawn0.step)⟩
  ·rw [if_neg c4] at H
   have c4b0 : decide ((l0.length : Int) < (l1.length : Int)) = false := decide_eq_false c4
   have c4b1 : decide (l0.length < l1.length) = false := decide_eq_false (fun h => c4 (Int.ofNat_lt.mpr h))
   clear c4
   try first | rw [c4b0] | rw [c4b1]
   have H' := Aside0.mk H
   clear H
   go_wp2
   go_meet
   case rel => exact ⟨_, ((l0.length : Int)), rz, H', ⟨by first | omega | exact Nat.le_refl _⟩, by repeat (first | exact Drawn0.refl _ | apply Drawn0.step)⟩
 case rest =>
  clear HC3
  try clear c1
  try clear c4
  try clear c4b0
  try clear c4b1
  obtain ⟨kq, x5_2, rfl, HA, HJ2, ⟨mc2, rfl⟩⟩ := hcut
  cases kq with
  | zero => exact absurd HA.out (by simp [platenref05_less.j0])
  | succ kj2 =>
   have H := HA.out
   clear HA
   simp only [platenref05_less.j0] at H
   have H' := Aside0.mk H
   clear H
   go_wp2
   go_loopg [6] kj2 (fun kq v6 w' => ∃ (x6_2 : Int), v6 = .int .i64 x6_2 ∧ Aside0 (platenref05_less.l0 kq l0 l1 x6_2 = some r) ∧ Aside0 (kq ≤ kj2) ∧ Drawn0 w w')
   case atStart => exact ⟨(wrap64 (x5_2 - 1)), rz, H', ⟨Nat.le_refl _⟩, by repeat (first | exact Drawn0.refl _ | apply Drawn0.step)⟩
   case round =>
    clear H'
    try clear c1
    try clear c4
    try clear c4b0
    try clear c4b1
    obtain ⟨x6_2, rfl, HA, HK2, ⟨m2, rfl⟩⟩ := hrel
    cases gk with
    | zero => exact absurd HA.out (by simp [platenref05_less.l0])
    | succ k2 =>
     have H := HA.out
     clear HA
     simp only [platenref05_less.l0] at H
     by_cases c5 : x6_2 ≥ 0
     ·rw [if_pos c5] at H
      have c5b0 : decide (0 ≤ x6_2) = true := decide_eq_true c5
      clear c5
      have HC6 := Aside0.mk H
      clear H
      go_upto_if 26 with (fail)
      go_cut [7] (fun v7 wc => ∃ (kq : Nat) (x7_5 : Int), v7 = .int .u8 x7_5 ∧ Aside0 (platenref05_less.j2 kq l0 l1 x6_2 x7_5 0 = some r) ∧ Aside0 (kq ≤ k2) ∧ Drawn0 w wc)
      case first =>
       have H := HC6.out
       clear HC6
       by_cases c7 : x6_2 < (l0.length : Int)
       ·rw [if_pos c7] at H
        have c7b0 := decide_eq_true c7
        clear c7
        try rw [c7b0]
        by_cases c8 : 0 ≤ x6_2
        ·rw [if_pos c8] at H
         have c8b0 := decide_eq_true c8
         clear c8
         have H' := Aside0.mk H
         clear H
         have p340 : 0 ≤ (x6_2 : Int) := of_decide_eq_true (by first | (with_reducible assumption) | assumption)
         have q340 : x6_2 < (l0.length : Int) := of_decide_eq_true (by first | (with_reducible assumption) | assumption)
         obtain ⟨ad340, e340, hx340_0⟩ := Kd.at_int HR0.out x6_2 p340 q340
         cases e340
         replace p340 := eq_true p340
         replace q340 := eq_true q340
         go_wp2
         go_meet
         case rel => exact ⟨_, (rd l0 x6_2), rz, H', ⟨by have := HJ2.out; have := HK2.out; first | omega | exact Nat.le_refl _⟩, by repeat (first | exact Drawn0.refl _ | apply Drawn0.step)⟩
        ·rw [if_neg c8] at H
         exact absurd H (by simp)
       ·rw [if_neg c7] at H
        have c7b0 := decide_eq_false c7
        clear c7
        try rw [c7b0]
        have H' := Aside0.mk H
        clear H
        go_wp2
        go_meet
        case rel => exact ⟨_, (0), rz, H', ⟨by have := HJ2.out; have := HK2.out; first | omega | exact Nat.le_refl _⟩, by repeat (first | exact Drawn0.refl _ | apply Drawn0.step)⟩
      case rest =>
       clear HC6
       try clear c1
       try clear c4
       try clear c4b0
       try clear c4b1
       try clear c5
       try clear c5b0
       try clear c7
       try clear c7b0
       try clear c8
       try clear c8b0
       try clear hx340_0
       try clear p340
       try clear q340
       obtain ⟨kq, x7_5, rfl, HA, HJ5, ⟨mc5, rfl⟩⟩ := hcut
       cases kq with
       | zero => exact absurd HA.out (by simp [platenref05_less.j2])
       | succ kj5 =>
        have H := HA.out
        clear HA
        simp only [platenref05_less.j2] at H
        by_cases c9 : x6_2 < (l1.length : Int)
        ·rw [if_pos c9] at H
         have c9b0 := decide_eq_true c9
         clear c9
         by_cases c10 : 0 ≤ x6_2
         ·rw [if_pos c10] at H
          have c10b0 := decide_eq_true c10
          clear c10
          by_cases c11 : x7_5 = (rd l1 x6_2)
          ·rw [if_pos c11] at H
           obtain ⟨c11b0, c11b1⟩ := eT c11
           clear c11
           have H' := Aside0.mk H
           clear H
           have p341 : 0 ≤ (x6_2 : Int) := of_decide_eq_true (by first | (with_reducible assumption) | assumption)
           have q341 : x6_2 < (l1.length : Int) := of_decide_eq_true (by first | (with_reducible assumption) | assumption)
           obtain ⟨ad341, e341, hx341_0⟩ := Kd.at_int HR1.out x6_2 p341 q341
           cases e341
           replace p341 := eq_true p341
           replace q341 := eq_true q341
           go_wp2
           go_roundg kj5
           case measure => have := HJ2.out; have := HK2.out; have := HJ5.out; omega
           case rel => exact ⟨(wrap64 (x6_2 - 1)), rz, H', ⟨by have := HJ2.out; have := HK2.out; have := HJ5.out; omega⟩, by repeat (first | exact Drawn0.refl _ | apply Drawn0.step)⟩
          ·rw [if_neg c11] at H
           obtain ⟨c11b0, c11b1⟩ := eF c11
           obtain rfl := Option.some.inj H
           have p341 : 0 ≤ (x6_2 : Int) := of_decide_eq_true (by first | (with_reducible assumption) | assumption)
           have q341 : x6_2 < (l1.length : Int) := of_decide_eq_true (by first | (with_reducible assumption) | assumption)
           obtain ⟨ad341, e341, hx341_0⟩ := Kd.at_int HR1.out x6_2 p341 q341
           cases e341
           replace p341 := eq_true p341
           replace q341 := eq_true q341
           go_wp2
           go_ret
           exact ⟨by first | rfl | (simp; done) | (simp [*]; done), by repeat (first | exact Drawn0.refl _ | apply Drawn0.step)⟩
         ·rw [if_neg c10] at H
          exact absurd H (by simp)
        ·rw [if_neg c9] at H
         have c9b0 := decide_eq_false c9
         clear c9
         by_cases c12 : x7_5 = 0
         ·rw [if_pos c12] at H
          obtain ⟨c12b0, c12b1⟩ := eT c12
          clear c12
          have H' := Aside0.mk H
          clear H
          go_wp2
          go_roundg kj5
          case measure => have := HJ2.out; have := HK2.out; have := HJ5.out; omega
          case rel => exact ⟨(wrap64 (x6_2 - 1)), rz, H', ⟨by have := HJ2.out; have := HK2.out; have := HJ5.out; omega⟩, by repeat (first | exact Drawn0.refl _ | apply Drawn0.step)⟩
         ·rw [if_neg c12] at H
          obtain ⟨c12b0, c12b1⟩ := eF c12
          obtain rfl := Option.some.inj H
          go_wp2
          go_ret
          exact ⟨by first | rfl | (simp; done) | (simp [*]; done), by repeat (first | exact Drawn0.refl _ | apply Drawn0.step)⟩
     ·rw [if_neg c5] at H
      have c5b0 : decide (0 ≤ x6_2) = false := decide_eq_false c5
      clear c5
      obtain rfl := Option.some.inj H
      go_wp2
      go_ret
      exact ⟨by first | rfl | (simp; done) | (simp [*]; done), by repeat (first | exact Drawn0.refl _ | apply Drawn0.step)⟩
end Go.Proofs.YtmeapdchnnpceaaDoor.Fn
end
section
namespace Go.Proofs.YtmeapdchnnpceaaDoor.Fn
open Go.RowKit Go.Proofs.YtmeapdchnnpceaaDoorW.PrintWords Go.Proofs.YtmeapdchnnpceaaDoorW.PrintLast Go.Proofs.YtmeapdchnnpceaaDoorW.PrintMore
attribute [local go_sem] min2_int min_two
set_option linter.unusedVariables false
set_option linter.unusedSimpArgs false
def platenref05_minus.l0 : Nat → List Int → Int → List Int → Int → Int → Option (List Int)
 | 0, _, _, _, _, _ => none
 | k + 1, x1, x6, x11, x13, x14 => if x14 < x13 then (if 0 ≤ x14 then (if x14 < (x11.length : Int) then (if x14 < (x1.length : Int) then (if (wrap64 ((wrap64 ((wrap64 (rd x11 x14)) - x6)) - (wrap64 (rd x1 x14)))) < 0 then (platenref05_minus.l0 k x1 1 (x11.set (x14 : Int).toNat ((wrap64 ((wrap64 ((wrap64 ((wrap64 (rd x11 x14)) - x6)) - (wrap64 (rd x1 x14)))) + 10)) % 256)) x13 (wrap64 (x14 + 1))) else (platenref05_minus.l0 k x1 0 (x11.set (x14 : Int).toNat ((wrap64 ((wrap64 ((wrap64 (rd x11 x14)) - x6)) - (wrap64 (rd x1 x14)))) % 256)) x13 (wrap64 (x14 + 1)))) else (if (wrap64 ((wrap64 (rd x11 x14)) - x6)) < 0 then (platenref05_minus.l0 k x1 1 (x11.set (x14 : Int).toNat ((wrap64 ((wrap64 ((wrap64 (rd x11 x14)) - x6)) + 10)) % 256)) x13 (wrap64 (x14 + 1))) else (platenref05_minus.l0 k x1 0 (x11.set (x14 : Int).toNat ((wrap64 ((wrap64 (rd x11 x14)) - x6)) % 256)) x13 (wrap64 (x14 + 1))))) else (none)) else (none)) else (some x11)
def platenref05_minus.f (k : Nat) (l0 : List Int) (l1 : List Int) : Option (List Int) := (some (([] : List Int) : List Int)).bind fun y342 => (if y342.length + l0.length < 140737488355328 then ((some (y342 ++ l0 : List Int)).bind fun y345 => (platenref05_minus.l0 k l1 0 y345 (y345.length : Int) 0)) else (none))
set_option maxHeartbeats 8000000 in
set_option maxRecDepth 100000 in
theorem platenref05_minus.calls (k : Nat) (A0 : Option Addr) (c0 : Nat) (l0 : List Int) (A1 : Option Addr) (c1 : Nat) (l1 : List Int) (r : List Int) (w : World) (hr0 : Kd.C (Kd.int .u8) w A0 l0.length l0) (hc0 : l0.length ≤ c0) (hr1 : Kd.C (Kd.int .u8) w A1 l1.length l1) (hc1 : l1.length ≤ c1) (h : platenref05_minus.f k l0 l1 = some r) :
  Calls Tryd.prog 55 #[.slice A0 l0.length c0, .slice A1 l1.length c1] w fun e w' => ∃ v0_ : Value, e = .returned (v0_) ∧ Kd.R (Kd.int .u8) 5 w' w.heap.size (fun _ => True) v0_ r ∧ Below w.heap.size w w' := by
 have HR0 := Aside0.mk hr0
 have HC0 := Aside0.mk hc0
 clear hr0 hc0
 have HR1 := Aside0.mk hr1
 have HC1 := Aside0.mk hc1
 clear hr1 hc1
 have HB := Aside0.mk (Below.refl w.heap.size w)
 have H : ((some (([] : List Int) : List Int)).bind fun y342 => (if y342.length + l0.length < 140737488355328 then ((some (y342 ++ l0 : List Int)).bind fun y345 => (platenref05_minus.l0 k l1 0 y345 (y345.length : Int) 0)) else (none))) = some r := h
 clear h
 obtain ⟨y342, hy342⟩ : ∃ y_ : List Int, y_ = (([] : List Int)) := ⟨_, rfl⟩
 replace H : (if y342.length + l0.length < 140737488355328 then ((some (y342 ++ l0 : List Int)).bind fun y345 => (platenref05_minus.l0 k l1 0 y345 (y345.length : Int) 0)) else (none)) = some r := by first | (rw [hy342]; with_reducible exact H) | (have H2_ := (Option.bind_some _ _).symm.trans H; rw [hy342]; with_reducible exact H2_) | (have H2_ := (Option.bind_some _ _).symm.trans H; with_reducible exact H2_) | with_reducible exact H | (rw [hy342]; exact H) | exact H
 have Ny342 := Aside0.mk hy342
 clear hy342
 by_cases c3 : y342.length + l0.length < 140737488355328
 ·rw [if_pos c3] at H
  have LMc3 := Aside0.mk c3
  clear c3
  obtain ⟨y345, hy345⟩ : ∃ y_ : List Int, y_ = (y342 ++ l0) := ⟨_, rfl⟩
  replace H : (platenref05_minus.l0 k l1 0 y345 (y345.length : Int) 0) = some r := by first | (rw [hy345]; with_reducible exact H) | (have H2_ := (Option.bind_some _ _).symm.trans H; rw [hy345]; with_reducible exact H2_) | (have H2_ := (Option.bind_some _ _).symm.trans H; with_reducible exact H2_) | with_reducible exact H | (rw [hy345]; exact H) | exact H
  have Ny345 := Aside0.mk hy345
  clear hy345
  have H' := Aside0.mk H
  clear H
  go_enter Tryd.func55, Tryd.ntmps55
  go_wp2_with (first | ((with_reducible refine gate_dst (N := 9) rfl ?_); refine Kd.R_lit (Kd.int .u8) _ 5 ?hg (N := 9) ?hd (xs := ([] : List Int)) (inner := []) (ok := fun _ => True) (okp := fun _ => True) ?hr ?hp (fun _ hk => hk) trivial (Below.refl _ _) (Nat.le_refl _) (by simp) ?_; (case hd => rfl); (case hg => rfl); (case hr => first | (go_simp; done) | (go_simp; rfl)); (case hp => exact (Reps.none _ _)); intro v343 w4 ho5 hb hg_ hnew_; clear hg_ hnew_; (first | rw [← Ny342.out] at ho5 | (simp only [Int.reduceToNat] at ho5; rw [← Ny342.out] at ho5)); have n0_ := Aside0.mk (Kd.R_lower ho5 (below_size bz)); have n1_ := Aside0.mk (below_step bz hb); clear HB; have HO344 := n0_; have HB := n1_; clear n0_ n1_; clear hb ho5) | ((with_reducible refine gate_builtin (b := .append) (xs := #[.tmp 9, .tmp 10]) rfl ?_); at_builtin; refine Kd.R_append_rows (Kd.int .u8) (w0 := w) w.heap.size rfl (.tmp 9) (.tmp 10) 63 5 (.int .u8 0) 1 rfl Tryd.underlying63 info5 rfl (by decide) (by omega) v343 y342 l0 _ _ _ (fun _ => True) (fun _ => False) rfl rfl ?aO ?aR (fun _ _ h => h) (fun _ h => h.elim) ?aF ?aB ?aS ?aL ?_; (case aR => repeat (first | exact (Kd.C_below HR0.out HB.out) | (with_reducible refine Kd.C_alloc ?_ _) | (with_reducible refine Kd.C_drewN ?_ _) | (with_reducible refine Kd.C_drew ?_))); (case aB => exact bz); (case aF => exact (fun _ _ => trivial)); (case aO => exact (by (with_reducible repeat (first | apply Kd.R_alloc | apply Kd.R_drewN | apply Kd.R_drew)); exact HO344.out)); (case aS => exact (below_size bz)); (case aL => have := LMc3.out; omega); intro v346 w6 ho hb hg hat; rw [← Ny345.out] at ho; have n0_ := Aside0.mk (hb); have n1_ := Aside0.mk (ho); clear HB; clear HO344; have HB := n0_; have HO347 := n1_; clear n0_ n1_; clear ho hb hg hat; obtain ⟨Ao7, co7, eo7⟩ := Kd.R_slice HO347.out; subst eo7))
  go_loopg [6, 14] k (fun kq v6 v14 w' => ∃ (x6_1 : Int) (x11_1 : List Int) (x14_1 : Int), v6 = .int .i64 x6_1 ∧ v14 = .int .i64 x14_1 ∧ Aside0 (platenref05_minus.l0 kq l1 x6_1 x11_1 (y345.length : Int) x14_1 = some r) ∧ Aside0 (kq ≤ k) ∧ Aside0 (Kd.R (Kd.int .u8) 5 w' w.heap.size (fun _ => True) (.slice Ao7 y345.length co7) x11_1) ∧ Aside0 (Below w.heap.size w w'))
  case atStart => exact ⟨(0), (y345), (0), rz, rz, H', ⟨Nat.le_refl _⟩, ⟨by (with_reducible repeat (first | apply Kd.R_alloc | apply Kd.R_drewN | apply Kd.R_drew)); exact HO347.out⟩, ⟨bz⟩⟩
  case round =>
   clear H'
   try clear c1
   try clear c3
   obtain ⟨x6_1, x11_1, x14_1, rfl, rfl, HA, HK1, HO_11, HB⟩ := hrel
   have hl11_1 := (Kd.R_reads' HO_11.out).1
   rw [hl11_1] at HO_11
   (try simp only [hl11_1])
   cases gk with
   | zero => exact absurd HA.out (by simp [platenref05_minus.l0])
   | succ k1 =>
    have H := HA.out
    clear HA
    simp only [platenref05_minus.l0] at H
    by_cases c8 : x14_1 < (y345.length : Int)
    ·rw [if_pos c8] at H
     have c8b0 := decide_eq_true c8
     (try (have c8b9 := c8b0; (first | rw [hl11_1] at c8b9); skip))
     clear c8
     by_cases c9 : 0 ≤ x14_1
     ·rw [if_pos c9] at H
      have c9b0 := decide_eq_true c9
      clear c9
      by_cases c10 : x14_1 < (x11_1.length : Int)
      ·rw [if_pos c10] at H
       have c10b0 := decide_eq_true c10
       (try (have c10b9 := c10b0; (first | rw [hl11_1] at c10b9); skip))
       clear c10
       by_cases c11 : x14_1 < (l1.length : Int)
       ·rw [if_pos c11] at H
        have c11b0 := decide_eq_true c11
        (try (have c11b9 := c11b0; (first | rw [hl11_1] at c11b9); skip))
        clear c11
        by_cases c12 : (wrap64 ((wrap64 ((wrap64 (rd x11_1 x14_1)) - x6_1)) - (wrap64 (rd l1 x14_1)))) < 0
        ·rw [if_pos c12] at H
         have c12b0 := decide_eq_true c12
         clear c12
         obtain ⟨y350, hy350⟩ : ∃ y_ : List Int, y_ = (x11_1.set (x14_1 : Int).toNat ((wrap64 ((wrap64 ((wrap64 ((wrap64 (rd x11_1 x14_1)) - x6_1)) - (wrap64 (rd l1 x14_1)))) + 10)) % 256)) := ⟨_, rfl⟩
         replace H : (platenref05_minus.l0 k1 l1 1 y350 (y345.length : Int) (wrap64 (x14_1 + 1))) = some r := by first | (rw [hy350]; with_reducible exact H) | (have H2_ := (Option.bind_some _ _).symm.trans H; rw [hy350]; with_reducible exact H2_) | (have H2_ := (Option.bind_some _ _).symm.trans H; with_reducible exact H2_) | with_reducible exact H | (rw [hy350]; exact H) | exact H
         have Ny350 := Aside0.mk hy350
         clear hy350
         have H' := Aside0.mk H
         clear H
         have p348 : 0 ≤ (x14_1 : Int) := of_decide_eq_true (by first | (with_reducible assumption) | assumption)
         have q348 : x14_1 < (x11_1.length : Int) := of_decide_eq_true (by first | (with_reducible assumption) | assumption)
         obtain ⟨ad348, e348, hx348_0⟩ := Kd.at_int (Kd.R_reads' HO_11.out).2.2 x14_1 p348 q348
         cases e348
         replace p348 := eq_true p348
         replace q348 := eq_true q348
         have p349 : 0 ≤ (x14_1 : Int) := of_decide_eq_true (by first | (with_reducible assumption) | assumption)
         have q349 : x14_1 < (l1.length : Int) := of_decide_eq_true (by first | (with_reducible assumption) | assumption)
         obtain ⟨ad349, e349, hx349_0⟩ := Kd.at_int HR1.out x14_1 p349 q349
         cases e349
         replace hx349_0 := (HB.out.cell (World.block_lt_of_cell? w _ hx349_0)).trans hx349_0
         replace p349 := eq_true p349
         replace q349 := eq_true q349
         have p13 : 0 ≤ (x14_1 : Int) := of_decide_eq_true (by first | (with_reducible assumption) | assumption)
         have q13 : (x14_1 : Int) < ((x11_1.length : Int) : Int) := of_decide_eq_true (by first | (with_reducible assumption) | assumption)
         obtain ⟨go13, co13, eo13, gb13, gl13, cl13, HG13⟩ := Kd.R_form HO_11.out (by omega)
         (first | cases eo13 | (injection eo13 with ea_ en_ ec_; (first | subst ea_ | (injection ea_ with ea_; subst ea_)); subst ec_; clear en_))
         have GB13 := Aside0.mk gb13
         have GG13 := Aside0.mk HG13
         clear gb13 gl13 HG13
         (first | simp only [add_plain] at hx348_0 | skip)
         obtain ⟨hx13_0, hf13_0⟩ := Kd.R_celln 0 HO_11.out (x14_1 : Int) p13 q13
         replace p13 := eq_true p13
         replace q13 := eq_true q13
         have HP14 := Kd.R_putg HO_11.out (x14_1 : Int) ((wrap64 ((wrap64 ((wrap64 ((wrap64 (rd x11_1 x14_1)) - x6_1)) - (wrap64 (rd l1 x14_1)))) + 10)) % 256)
         go_wp2_with (first | ((with_reducible refine gate_store (t := 5) (p := 43) rfl ?_); refine store_event (t := 5) (p := 43) (v := ?vo_w15) (w1 := (wr.setCell ⟨go13, (x14_1 : Int).toNat, none⟩ (.int .u8 ((wrap64 ((wrap64 ((wrap64 ((wrap64 (rd x11_1 x14_1)) - x6_1)) - (wrap64 (rd l1 x14_1)))) + 10)) % 256)))) ?hg ?ho ?hn ?hr ?_; (case ho => rfl); (case hg => rfl); (case hn => rfl); (case hr => first | (go_simp; done) | (go_simp; rfl)); intro w15 hw; have hg : wr.grownBy w15 (some go13) := (by rw [hw]; exact HP14.2); have hp_ : Kd.R (Kd.int .u8) 5 w15 w.heap.size (fun _ => True) (.slice (some ⟨go13, 0, none⟩) x11_1.length co7) y350 := (by rw [hw, Ny350.out]; exact HP14.1); clear HP14; have n0_ := Aside0.mk (hp_); have n1_ := Aside0.mk ((by rw [hw]; exact below_set (HB.out) GB13.out : Below w.heap.size w w15)); clear HO_11; clear HB; have HO_11 := n0_; have HB := n1_; clear n0_ n1_; clear hg hw hp_))
         (try simp only [← hl11_1])
         go_roundg k1
         case measure => have := HK1.out; omega
         case rel => exact ⟨(1), (y350), (wrap64 (x14_1 + 1)), rz, rz, H', ⟨by have := HK1.out; omega⟩, ⟨by (try simp only [hl11_1]); (with_reducible repeat (first | apply Kd.R_alloc | apply Kd.R_drewN | apply Kd.R_drew)); exact HO_11.out⟩, ⟨bz⟩⟩
        ·rw [if_neg c12] at H
         have c12b0 := decide_eq_false c12
         clear c12
         obtain ⟨y351, hy351⟩ : ∃ y_ : List Int, y_ = (x11_1.set (x14_1 : Int).toNat ((wrap64 ((wrap64 ((wrap64 (rd x11_1 x14_1)) - x6_1)) - (wrap64 (rd l1 x14_1)))) % 256)) := ⟨_, rfl⟩
         replace H : (platenref05_minus.l0 k1 l1 0 y351 (y345.length : Int) (wrap64 (x14_1 + 1))) = some r := by first | (rw [hy351]; with_reducible exact H) | (have H2_ := (Option.bind_some _ _).symm.trans H; rw [hy351]; with_reducible exact H2_) | (have H2_ := (Option.bind_some _ _).symm.trans H; with_reducible exact H2_) | with_reducible exact H | (rw [hy351]; exact H) | exact H
         have Ny351 := Aside0.mk hy351
         clear hy351
         have H' := Aside0.mk H
         clear H
         have p348 : 0 ≤ (x14_1 : Int) := of_decide_eq_true (by first | (with_reducible assumption) | assumption)
         have q348 : x14_1 < (x11_1.length : Int) := of_decide_eq_true (by first | (with_reducible assumption) | assumption)
         obtain ⟨ad348, e348, hx348_0⟩ := Kd.at_int (Kd.R_reads' HO_11.out).2.2 x14_1 p348 q348
         cases e348
         replace p348 := eq_true p348
         replace q348 := eq_true q348
         have p349 : 0 ≤ (x14_1 : Int) := of_decide_eq_true (by first | (with_reducible assumption) | assumption)
         have q349 : x14_1 < (l1.length : Int) := of_decide_eq_true (by first | (with_reducible assumption) | assumption)
         obtain ⟨ad349, e349, hx349_0⟩ := Kd.at_int HR1.out x14_1 p349 q349
         cases e349
         replace hx349_0 := (HB.out.cell (World.block_lt_of_cell? w _ hx349_0)).trans hx349_0
         replace p349 := eq_true p349
         replace q349 := eq_true q349
         have p16 : 0 ≤ (x14_1 : Int) := of_decide_eq_true (by first | (with_reducible assumption) | assumption)
         have q16 : (x14_1 : Int) < ((x11_1.length : Int) : Int) := of_decide_eq_true (by first | (with_reducible assumption) | assumption)
         obtain ⟨go16, co16, eo16, gb16, gl16, cl16, HG16⟩ := Kd.R_form HO_11.out (by omega)
         (first | cases eo16 | (injection eo16 with ea_ en_ ec_; (first | subst ea_ | (injection ea_ with ea_; subst ea_)); subst ec_; clear en_))
         have GB16 := Aside0.mk gb16
         have GG16 := Aside0.mk HG16
         clear gb16 gl16 HG16
         (first | simp only [add_plain] at hx348_0 | skip)
         obtain ⟨hx16_0, hf16_0⟩ := Kd.R_celln 0 HO_11.out (x14_1 : Int) p16 q16
         replace p16 := eq_true p16
         replace q16 := eq_true q16
         have HP17 := Kd.R_putg HO_11.out (x14_1 : Int) ((wrap64 ((wrap64 ((wrap64 (rd x11_1 x14_1)) - x6_1)) - (wrap64 (rd l1 x14_1)))) % 256)
         go_wp2_with (first | ((with_reducible refine gate_store (t := 5) (p := 43) rfl ?_); refine store_event (t := 5) (p := 43) (v := ?vo_w18) (w1 := (wr.setCell ⟨go16, (x14_1 : Int).toNat, none⟩ (.int .u8 ((wrap64 ((wrap64 ((wrap64 (rd x11_1 x14_1)) - x6_1)) - (wrap64 (rd l1 x14_1)))) % 256)))) ?hg ?ho ?hn ?hr ?_; (case ho => rfl); (case hg => rfl); (case hn => rfl); (case hr => first | (go_simp; done) | (go_simp; rfl)); intro w18 hw; have hg : wr.grownBy w18 (some go16) := (by rw [hw]; exact HP17.2); have hp_ : Kd.R (Kd.int .u8) 5 w18 w.heap.size (fun _ => True) (.slice (some ⟨go16, 0, none⟩) x11_1.length co7) y351 := (by rw [hw, Ny351.out]; exact HP17.1); clear HP17; have n0_ := Aside0.mk (hp_); have n1_ := Aside0.mk ((by rw [hw]; exact below_set (HB.out) GB16.out : Below w.heap.size w w18)); clear HO_11; clear HB; have HO_11 := n0_; have HB := n1_; clear n0_ n1_; clear hg hw hp_))
         (try simp only [← hl11_1])
         go_roundg k1
         case measure => have := HK1.out; omega
         case rel => exact ⟨(0), (y351), (wrap64 (x14_1 + 1)), rz, rz, H', ⟨by have := HK1.out; omega⟩, ⟨by (try simp only [hl11_1]); (with_reducible repeat (first | apply Kd.R_alloc | apply Kd.R_drewN | apply Kd.R_drew)); exact HO_11.out⟩, ⟨bz⟩⟩
       ·rw [if_neg c11] at H
        have c11b0 := decide_eq_false c11
        (try (have c11b9 := c11b0; (first | rw [hl11_1] at c11b9); skip))
        clear c11
        by_cases c19 : (wrap64 ((wrap64 (rd x11_1 x14_1)) - x6_1)) < 0
        ·rw [if_pos c19] at H
         have c19b0 := decide_eq_true c19
         clear c19
         obtain ⟨y352, hy352⟩ : ∃ y_ : List Int, y_ = (x11_1.set (x14_1 : Int).toNat ((wrap64 ((wrap64 ((wrap64 (rd x11_1 x14_1)) - x6_1)) + 10)) % 256)) := ⟨_, rfl⟩
         replace H : (platenref05_minus.l0 k1 l1 1 y352 (y345.length : Int) (wrap64 (x14_1 + 1))) = some r := by first | (rw [hy352]; with_reducible exact H) | (have H2_ := (Option.bind_some _ _).symm.trans H; rw [hy352]; with_reducible exact H2_) | (have H2_ := (Option.bind_some _ _).symm.trans H; with_reducible exact H2_) | with_reducible exact H | (rw [hy352]; exact H) | exact H
         have Ny352 := Aside0.mk hy352
         clear hy352
         have H' := Aside0.mk H
         clear H
         have p348 : 0 ≤ (x14_1 : Int) := of_decide_eq_true (by first | (with_reducible assumption) | assumption)
         have q348 : x14_1 < (x11_1.length : Int) := of_decide_eq_true (by first | (with_reducible assumption) | assumption)
         obtain ⟨ad348, e348, hx348_0⟩ := Kd.at_int (Kd.R_reads' HO_11.out).2.2 x14_1 p348 q348
         cases e348
         replace p348 := eq_true p348
         replace q348 := eq_true q348
         have p20 : 0 ≤ (x14_1 : Int) := of_decide_eq_true (by first | (with_reducible assumption) | assumption)
         have q20 : (x14_1 : Int) < ((x11_1.length : Int) : Int) := of_decide_eq_true (by first | (with_reducible assumption) | assumption)
         obtain ⟨go20, co20, eo20, gb20, gl20, cl20, HG20⟩ := Kd.R_form HO_11.out (by omega)
         (first | cases eo20 | (injection eo20 with ea_ en_ ec_; (first | subst ea_ | (injection ea_ with ea_; subst ea_)); subst ec_; clear en_))
         have GB20 := Aside0.mk gb20
         have GG20 := Aside0.mk HG20
         clear gb20 gl20 HG20
         (first | simp only [add_plain] at hx348_0 | skip)
         obtain ⟨hx20_0, hf20_0⟩ := Kd.R_celln 0 HO_11.out (x14_1 : Int) p20 q20
         replace p20 := eq_true p20
         replace q20 := eq_true q20
         have HP21 := Kd.R_putg HO_11.out (x14_1 : Int) ((wrap64 ((wrap64 ((wrap64 (rd x11_1 x14_1)) - x6_1)) + 10)) % 256)
         go_wp2_with (first | ((with_reducible refine gate_store (t := 5) (p := 43) rfl ?_); refine store_event (t := 5) (p := 43) (v := ?vo_w22) (w1 := (wr.setCell ⟨go20, (x14_1 : Int).toNat, none⟩ (.int .u8 ((wrap64 ((wrap64 ((wrap64 (rd x11_1 x14_1)) - x6_1)) + 10)) % 256)))) ?hg ?ho ?hn ?hr ?_; (case ho => rfl); (case hg => rfl); (case hn => rfl); (case hr => first | (go_simp; done) | (go_simp; rfl)); intro w22 hw; have hg : wr.grownBy w22 (some go20) := (by rw [hw]; exact HP21.2); have hp_ : Kd.R (Kd.int .u8) 5 w22 w.heap.size (fun _ => True) (.slice (some ⟨go20, 0, none⟩) x11_1.length co7) y352 := (by rw [hw, Ny352.out]; exact HP21.1); clear HP21; have n0_ := Aside0.mk (hp_); have n1_ := Aside0.mk ((by rw [hw]; exact below_set (HB.out) GB20.out : Below w.heap.size w w22)); clear HO_11; clear HB; have HO_11 := n0_; have HB := n1_; clear n0_ n1_; clear hg hw hp_))
         (try simp only [← hl11_1])
         go_roundg k1
         case measure => have := HK1.out; omega
         case rel => exact ⟨(1), (y352), (wrap64 (x14_1 + 1)), rz, rz, H', ⟨by have := HK1.out; omega⟩, ⟨by (try simp only [hl11_1]); (with_reducible repeat (first | apply Kd.R_alloc | apply Kd.R_drewN | apply Kd.R_drew)); exact HO_11.out⟩, ⟨bz⟩⟩
        ·rw [if_neg c19] at H
         have c19b0 := decide_eq_false c19
         clear c19
         obtain ⟨y353, hy353⟩ : ∃ y_ : List Int, y_ = (x11_1.set (x14_1 : Int).toNat ((wrap64 ((wrap64 (rd x11_1 x14_1)) - x6_1)) % 256)) := ⟨_, rfl⟩
         replace H : (platenref05_minus.l0 k1 l1 0 y353 (y345.length : Int) (wrap64 (x14_1 + 1))) = some r := by first | (rw [hy353]; with_reducible exact H) | (have H2_ := (Option.bind_some _ _).symm.trans H; rw [hy353]; with_reducible exact H2_) | (have H2_ := (Option.bind_some _ _).symm.trans H; with_reducible exact H2_) | with_reducible exact H | (rw [hy353]; exact H) | exact H
         have Ny353 := Aside0.mk hy353
         clear hy353
         have H' := Aside0.mk H
         clear H
         have p348 : 0 ≤ (x14_1 : Int) := of_decide_eq_true (by first | (with_reducible assumption) | assumption)
         have q348 : x14_1 < (x11_1.length : Int) := of_decide_eq_true (by first | (with_reducible assumption) | assumption)
         obtain ⟨ad348, e348, hx348_0⟩ := Kd.at_int (Kd.R_reads' HO_11.out).2.2 x14_1 p348 q348
         cases e348
         replace p348 := eq_true p348
         replace q348 := eq_true q348
         have p23 : 0 ≤ (x14_1 : Int) := of_decide_eq_true (by first | (with_reducible assumption) | assumption)
         have q23 : (x14_1 : Int) < ((x11_1.length : Int) : Int) := of_decide_eq_true (by first | (with_reducible assumption) | assumption)
         obtain ⟨go23, co23, eo23, gb23, gl23, cl23, HG23⟩ := Kd.R_form HO_11.out (by omega)
         (first | cases eo23 | (injection eo23 with ea_ en_ ec_; (first | subst ea_ | (injection ea_ with ea_; subst ea_)); subst ec_; clear en_))
         have GB23 := Aside0.mk gb23
         have GG23 := Aside0.mk HG23
         clear gb23 gl23 HG23
         (first | simp only [add_plain] at hx348_0 | skip)
         obtain ⟨hx23_0, hf23_0⟩ := Kd.R_celln 0 HO_11.out (x14_1 : Int) p23 q23
         replace p23 := eq_true p23
         replace q23 := eq_true q23
         have HP24 := Kd.R_putg HO_11.out (x14_1 : Int) ((wrap64 ((wrap64 (rd x11_1 x14_1)) - x6_1)) % 256)
         go_wp2_with (first | ((with_reducible refine gate_store (t := 5) (p := 43) rfl ?_); refine store_event (t := 5) (p := 43) (v := ?vo_w25) (w1 := (wr.setCell ⟨go23, (x14_1 : Int).toNat, none⟩ (.int .u8 ((wrap64 ((wrap64 (rd x11_1 x14_1)) - x6_1)) % 256)))) ?hg ?ho ?hn ?hr ?_; (case ho => rfl); (case hg => rfl); (case hn => rfl); (case hr => first | (go_simp; done) | (go_simp; rfl)); intro w25 hw; have hg : wr.grownBy w25 (some go23) := (by rw [hw]; exact HP24.2); have hp_ : Kd.R (Kd.int .u8) 5 w25 w.heap.size (fun _ => True) (.slice (some ⟨go23, 0, none⟩) x11_1.length co7) y353 := (by rw [hw, Ny353.out]; exact HP24.1); clear HP24; have n0_ := Aside0.mk (hp_); have n1_ := Aside0.mk ((by rw [hw]; exact below_set (HB.out) GB23.out : Below w.heap.size w w25)); clear HO_11; clear HB; have HO_11 := n0_; have HB := n1_; clear n0_ n1_; clear hg hw hp_))
         (try simp only [← hl11_1])
         go_roundg k1
         case measure => have := HK1.out; omega
         case rel => exact ⟨(0), (y353), (wrap64 (x14_1 + 1)), rz, rz, H', ⟨by have := HK1.out; omega⟩, ⟨by (try simp only [hl11_1]); (with_reducible repeat (first | apply Kd.R_alloc | apply Kd.R_drewN | apply Kd.R_drew)); exact HO_11.out⟩, ⟨bz⟩⟩
      ·rw [if_neg c10] at H
       exact absurd H (by simp)
     ·rw [if_neg c9] at H
      exact absurd H (by simp)
    ·rw [if_neg c8] at H
     have c8b0 := decide_eq_false c8
     (try (have c8b9 := c8b0; (first | rw [hl11_1] at c8b9); skip))
     clear c8
     obtain rfl := Option.some.inj H
     go_wp2
     go_ret
     exact ⟨_, by first | rfl | (simp [errW_none, errW_some] <;> rfl) | (simp [*, errW_none, errW_some] <;> rfl), by (with_reducible repeat (first | apply Kd.R_alloc | apply Kd.R_drewN | apply Kd.R_drew)); exact HO_11.out, bz⟩
 ·rw [if_neg c3] at H
  exact absurd H (by simp)
end Go.Proofs.YtmeapdchnnpceaaDoor.Fn
end
