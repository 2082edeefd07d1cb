/- The law ShortParts: the walks through its functions and its plain law (part 2). Own texts and the kit's printed words for this seat, without what the law does not use: put together by merge.py (of this work). -/
import Derived.Test.YtmeapdchnnpceaaDoorMShortParts1
section
namespace Go.Proofs.YtmeapdchnnpceaaDoor.Fn
open Go.RowKit Go.Proofs.YtmeapdchnnpceaaDoorW.PrintWords Go.Proofs.YtmeapdchnnpceaaDoorW.PrintLast Go.Proofs.YtmeapdchnnpceaaDoorW.PrintMore
attribute [local go_sem] min2_int min_two
set_option linter.unusedVariables false
set_option linter.unusedSimpArgs false
mutual
def bigdec_Add.j0 : Nat → ByteArray → Int → ByteArray → Int → Option (ByteArray × Int × Int)
 | 0, _, _, _, _ => none
 | k + 1, x216000, x216001, x217000, x217001 => if 0 ≤ (wrap64 ((wrap64 (x216001 - (mn (wrap64 (x216001 - (x216000.size : Int))) (wrap64 (x217001 - (x217000.size : Int)))))) + 1)) then (if (wrap64 ((wrap64 (x216001 - (mn (wrap64 (x216001 - (x216000.size : Int))) (wrap64 (x217001 - (x217000.size : Int)))))) + 1) : Int).toNat ≤ 281474976710656 then ((some (List.replicate (wrap64 ((wrap64 (x216001 - (mn (wrap64 (x216001 - (x216000.size : Int))) (wrap64 (x217001 - (x217000.size : Int)))))) + 1) : Int).toNat 0 : List Int)).bind fun y224 => (bigdec_Add.l0 k y224 (y224.length : Int) 0 x216000 x216001 x217000 x217001)) else (none)) else (none)
def bigdec_Add.l0 : Nat → List Int → Int → Int → ByteArray → Int → ByteArray → Int → Option (ByteArray × Int × Int)
 | 0, _, _, _, _, _, _, _ => none
 | k + 1, x61, x63, x64, x216000, x216001, x217000, x217001 => if x64 < x63 then (if 0 ≤ x64 then (if x64 < (x61.length : Int) then (bigdec_Add.l0 k (x61.set (x64 : Int).toNat 48) x63 (wrap64 (x64 + 1)) x216000 x216001 x217000 x217001) else (none)) else (none)) else (if 1 ≤ (x61.length : Int) then (if 2 ≤ (x61.length : Int) then (if x216000.size + 1 ≤ x61.length then (bigdec_Add.j2 k (cpyAt x61 1 x216000) x216000 x216001 x217000 x217001) else (none)) else (none)) else (none))
def bigdec_Add.j2 : Nat → List Int → ByteArray → Int → ByteArray → Int → Option (ByteArray × Int × Int)
 | 0, _, _, _, _, _ => none
 | k + 1, x8, x216000, x216001, x217000, x217001 => bigdec_Add.l1 k x8 0 (wrap64 ((x8.length : Int) - 1)) x216000 x216001 x217000 x217001
def bigdec_Add.l1 : Nat → List Int → Int → Int → ByteArray → Int → ByteArray → Int → Option (ByteArray × Int × Int)
 | 0, _, _, _, _, _, _, _ => none
 | k + 1, x8, x10, x11, x216000, x216001, x217000, x217001 => if x11 ≥ 0 then (if 0 ≤ x11 then (if x11 < (x8.length : Int) then (if (wrap64 ((wrap64 (x11 - 1)) - (wrap64 (x216001 - x217001)))) ≥ 0 then (if (wrap64 ((wrap64 (x11 - 1)) - (wrap64 (x216001 - x217001)))) < (x217000.size : Int) then (if 0 ≤ (wrap64 ((wrap64 (x11 - 1)) - (wrap64 (x216001 - x217001)))) then (bigdec_Add.l1 k (x8.set (x11 : Int).toNat (48 + ((((((((rd x8 x11) - 48) % 256) + x10) % 256) + (((bt x217000 (wrap64 ((wrap64 (x11 - 1)) - (wrap64 (x216001 - x217001))))) - 48) % 256)) % 256) % 10))) ((((((((rd x8 x11) - 48) % 256) + x10) % 256) + (((bt x217000 (wrap64 ((wrap64 (x11 - 1)) - (wrap64 (x216001 - x217001))))) - 48) % 256)) % 256) / 10) (wrap64 (x11 - 1)) x216000 x216001 x217000 x217001) else (none)) else (bigdec_Add.l1 k (x8.set (x11 : Int).toNat (48 + ((((((rd x8 x11) - 48) % 256) + x10) % 256) % 10))) ((((((rd x8 x11) - 48) % 256) + x10) % 256) / 10) (wrap64 (x11 - 1)) x216000 x216001 x217000 x217001)) else (bigdec_Add.l1 k (x8.set (x11 : Int).toNat (48 + ((((((rd x8 x11) - 48) % 256) + x10) % 256) % 10))) ((((((rd x8 x11) - 48) % 256) + x10) % 256) / 10) (wrap64 (x11 - 1)) x216000 x216001 x217000 x217001)) else (none)) else (none)) else ((bigdec_form.f (strOfNums x8) (wrap64 (x216001 + 1))).bind fun bt237 => (if (bt237.1.size : Int) > 2000 then (some ((⟨#[]⟩ : ByteArray), 0, 2)) else (some (bt237.1, bt237.2, 0))))
end
def bigdec_Add.f (k : Nat) (a0_0 : ByteArray) (a0_1 : Int) (a1_0 : ByteArray) (a1_1 : Int) : Option (ByteArray × Int × Int) := (bigdec_two.f k a0_0 a0_1 a1_0 a1_1).bind fun bt218 => (if bt218.2.2.2.2 = 0 then (if bt218.1.toList = ([] : List UInt8) then (some (bt218.2.2.1, bt218.2.2.2.1, 0)) else (if bt218.2.2.1.toList = ([] : List UInt8) then (some (bt218.1, bt218.2.1, 0)) else ((bigdec_cmp.f k bt218.1 bt218.2.1 bt218.2.2.1 bt218.2.2.2.1).bind fun t223 => (if t223 < 0 then (bigdec_Add.j0 k bt218.2.2.1 bt218.2.2.2.1 bt218.1 bt218.2.1) else (bigdec_Add.j0 k bt218.1 bt218.2.1 bt218.2.2.1 bt218.2.2.2.1))))) else (some ((⟨#[]⟩ : ByteArray), 0, bt218.2.2.2.2)))
set_option maxHeartbeats 8000000 in
set_option maxRecDepth 100000 in
theorem bigdec_Add.calls (k : Nat) (a0_0 : ByteArray) (a0_1 : Int) (a1_0 : ByteArray) (a1_1 : Int) (r1 : ByteArray) (r2 : Int) (r3 : Int) (w : World) (h : bigdec_Add.f k a0_0 a0_1 a1_0 a1_1 = some (r1, r2, r3)) :
  Calls Tryd.prog 23 #[.agg #[.string a0_0, .int .i64 a0_1], .agg #[.string a1_0, .int .i64 a1_1]] w fun e w' => e = .returned (.tuple #[.agg #[.string r1, .int .i64 r2], .int .i64 r3]) ∧ Below w.heap.size w w' := by
 have hu28 := Tryd.underlying28
 have HB := Aside0.mk (Below.refl w.heap.size w)
 have H : ((bigdec_two.f k a0_0 a0_1 a1_0 a1_1).bind fun bt218 => (if bt218.2.2.2.2 = 0 then (if bt218.1.toList = ([] : List UInt8) then (some (bt218.2.2.1, bt218.2.2.2.1, 0)) else (if bt218.2.2.1.toList = ([] : List UInt8) then (some (bt218.1, bt218.2.1, 0)) else ((bigdec_cmp.f k bt218.1 bt218.2.1 bt218.2.2.1 bt218.2.2.2.1).bind fun t223 => (if t223 < 0 then (bigdec_Add.j0 k bt218.2.2.1 bt218.2.2.2.1 bt218.1 bt218.2.1) else (bigdec_Add.j0 k bt218.1 bt218.2.1 bt218.2.2.1 bt218.2.2.2.1))))) else (some ((⟨#[]⟩ : ByteArray), 0, bt218.2.2.2.2)))) = some (r1, r2, r3) := h
 clear h
 replace H := Option.bind_eq_some_iff.mp H
 obtain ⟨⟨t218, t219, t220, t221, t222⟩, A30, H⟩ := H
 replace H : (if t222 = 0 then (if t218.toList = ([] : List UInt8) then (some (t220, t221, 0)) else (if t220.toList = ([] : List UInt8) then (some (t218, t219, 0)) else ((bigdec_cmp.f k t218 t219 t220 t221).bind fun t223 => (if t223 < 0 then (bigdec_Add.j0 k t220 t221 t218 t219) else (bigdec_Add.j0 k t218 t219 t220 t221))))) else (some ((⟨#[]⟩ : ByteArray), 0, t222))) = some (r1, r2, r3) := H
 have A3 := Aside0.mk A30
 clear A30
 by_cases c4 : t222 = 0
 ·rw [if_pos c4] at H
  have c4b0 : (t222 == 0) = true := beq_iff_eq.mpr c4
  have c4b1 : (t222 != 0) = false := bne_eq_false_iff_eq.mpr c4
  clear c4
  by_cases c5 : t218.toList = ([] : List UInt8)
  ·rw [if_pos c5] at H
   have c5b0 : (t218.toList == ([] : List UInt8)) = true := beq_iff_eq.mpr c5
   have c5b1 : (t218.toList != ([] : List UInt8)) = false := bne_eq_false_iff_eq.mpr c5
   clear c5
   simp only [Option.some.injEq, Prod.mk.injEq] at H
   obtain ⟨rfl, rfl, rfl⟩ := H
   go_enter Tryd.func23, Tryd.ntmps23
   go_wp2_with (first | ((with_reducible refine gate_dst (N := 2) rfl ?_); (try (refine gate_guard (by rfl) ?_; dsimp only)); refine box_event ?hg (N := 2) ?hd (cs := #[.string a0_0, .int .i64 a0_1]) (t := 28) ?hr ?_; (case hd => rfl); (case hg => rfl); (case hr => first | (go_simp; done) | (go_simp; rfl)); intro gb215 hg w6 hbox hb; have n0_ := Aside0.mk (below_step (by repeat (first | (with_reducible first | exact HB.out | apply below_alloc | apply pw_below_drewN | apply below_drew1) | exact HB.out)) hb); have n1_ := Aside0.mk (hbox); have n2_ := Aside0.mk ((by rw [hg]; exact (below_size (by repeat (first | (with_reducible first | exact HB.out | apply below_alloc | apply pw_below_drewN | apply below_drew1) | exact HB.out))) : w.heap.size ≤ gb215)); have n3_ := Aside0.mk ((by rw [hg]; exact (below_size (by repeat (first | (with_reducible first | exact HB.out | apply below_alloc | apply pw_below_drewN | apply below_drew1) | exact HB.out))) : w.heap.size ≤ gb215)); clear HB; have HB := n0_; have BK215 := n1_; have GW215 := n2_; have GE215 := n3_; clear n0_ n1_ n2_ n3_; clear hb hbox hg) | ((with_reducible refine gate_dst (N := 3) rfl ?_); (try (refine gate_guard (by rfl) ?_; dsimp only)); refine box_event ?hg (N := 3) ?hd (cs := #[.string a1_0, .int .i64 a1_1]) (t := 28) ?hr ?_; (case hd => rfl); (case hg => rfl); (case hr => first | (go_simp; done) | (go_simp; rfl)); intro gb216 hg w7 hbox hb; have n0_ := Aside0.mk (blk_below (g := gb215) (o := .cells #[.string a0_0, .int .i64 a0_1] 28 (0, 0)) (by (with_reducible repeat (first | refine blk_drewN ?_ _ | refine blk_drew ?_ | refine blk_alloc ?_ _)); exact BK215.out) hb); have n1_ := Aside0.mk (below_step (by repeat (first | (with_reducible first | exact HB.out | apply below_alloc | apply pw_below_drewN | apply below_drew1 | refine below_set ?_ GE215.out) | exact HB.out)) hb); have n2_ := Aside0.mk (hbox); have n3_ := Aside0.mk ((by rw [hg]; exact (below_size (by repeat (first | (with_reducible first | exact HB.out | apply below_alloc | apply pw_below_drewN | apply below_drew1 | refine below_set ?_ GE215.out) | exact HB.out))) : w.heap.size ≤ gb216)); have n4_ := Aside0.mk ((by rw [hg]; exact (below_size (by repeat (first | (with_reducible first | exact HB.out | apply below_alloc | apply pw_below_drewN | apply below_drew1 | refine below_set ?_ GE215.out) | exact HB.out))) : w.heap.size ≤ gb216)); have n5_ := Aside0.mk ((by rw [hg]; exact Nat.ne_of_lt (blk_lt (g := gb215) (o := .cells #[.string a0_0, .int .i64 a0_1] 28 (0, 0)) (by (with_reducible repeat (first | refine blk_drewN ?_ _ | refine blk_drew ?_ | refine blk_alloc ?_ _)); exact BK215.out)) : gb215 ≠ gb216)); have n6_ := Aside0.mk ((by rw [hg]; exact Nat.ne_of_gt (blk_lt (g := gb215) (o := .cells #[.string a0_0, .int .i64 a0_1] 28 (0, 0)) (by (with_reducible repeat (first | refine blk_drewN ?_ _ | refine blk_drew ?_ | refine blk_alloc ?_ _)); exact BK215.out)) : gb216 ≠ gb215)); clear BK215; clear HB; have BK215 := n0_; have HB := n1_; have BK216 := n2_; have GW216 := n3_; have GE216 := n4_; have NB215_216 := n5_; have NB216_215 := n6_; clear n0_ n1_ n2_ n3_ n4_ n5_ n6_; clear hb hbox hg) | ((with_reducible refine gate_dst (N := 4) rfl ?_); (try (refine gate_guard (by rfl) ?_; dsimp only)); refine box_event ?hg (N := 4) ?hd (cs := #[.string (⟨#[]⟩ : ByteArray), .int .i64 0]) (t := 28) ?hr ?_; (case hd => rfl); (case hg => rfl); (case hr => first | (go_simp; done) | (go_simp; rfl)); intro gb217 hg w8 hbox hb; have n0_ := Aside0.mk (blk_below (g := gb215) (o := .cells #[.string a0_0, .int .i64 a0_1] 28 (0, 0)) (by (with_reducible repeat (first | refine blk_drewN ?_ _ | refine blk_drew ?_ | refine blk_alloc ?_ _)); exact BK215.out) hb); have n1_ := Aside0.mk (blk_below (g := gb216) (o := .cells #[.string a1_0, .int .i64 a1_1] 28 (0, 0)) (by (with_reducible repeat (first | refine blk_drewN ?_ _ | refine blk_drew ?_ | refine blk_alloc ?_ _)); exact BK216.out) hb); have n2_ := Aside0.mk (below_step (by repeat (first | (with_reducible first | exact HB.out | apply below_alloc | apply pw_below_drewN | apply below_drew1 | refine below_set ?_ GE215.out | refine below_set ?_ GE216.out) | exact HB.out)) hb); have n3_ := Aside0.mk (hbox); have n4_ := Aside0.mk ((by rw [hg]; exact (below_size (by repeat (first | (with_reducible first | exact HB.out | apply below_alloc | apply pw_below_drewN | apply below_drew1 | refine below_set ?_ GE215.out | refine below_set ?_ GE216.out) | exact HB.out))) : w.heap.size ≤ gb217)); have n5_ := Aside0.mk ((by rw [hg]; exact (below_size (by repeat (first | (with_reducible first | exact HB.out | apply below_alloc | apply pw_below_drewN | apply below_drew1 | refine below_set ?_ GE215.out | refine below_set ?_ GE216.out) | exact HB.out))) : w.heap.size ≤ gb217)); have n6_ := Aside0.mk ((by rw [hg]; exact Nat.ne_of_lt (blk_lt (g := gb215) (o := .cells #[.string a0_0, .int .i64 a0_1] 28 (0, 0)) (by (with_reducible repeat (first | refine blk_drewN ?_ _ | refine blk_drew ?_ | refine blk_alloc ?_ _)); exact BK215.out)) : gb215 ≠ gb217)); have n7_ := Aside0.mk ((by rw [hg]; exact Nat.ne_of_gt (blk_lt (g := gb215) (o := .cells #[.string a0_0, .int .i64 a0_1] 28 (0, 0)) (by (with_reducible repeat (first | refine blk_drewN ?_ _ | refine blk_drew ?_ | refine blk_alloc ?_ _)); exact BK215.out)) : gb217 ≠ gb215)); have n8_ := Aside0.mk ((by rw [hg]; exact Nat.ne_of_lt (blk_lt (g := gb216) (o := .cells #[.string a1_0, .int .i64 a1_1] 28 (0, 0)) (by (with_reducible repeat (first | refine blk_drewN ?_ _ | refine blk_drew ?_ | refine blk_alloc ?_ _)); exact BK216.out)) : gb216 ≠ gb217)); have n9_ := Aside0.mk ((by rw [hg]; exact Nat.ne_of_gt (blk_lt (g := gb216) (o := .cells #[.string a1_0, .int .i64 a1_1] 28 (0, 0)) (by (with_reducible repeat (first | refine blk_drewN ?_ _ | refine blk_drew ?_ | refine blk_alloc ?_ _)); exact BK216.out)) : gb217 ≠ gb216)); clear BK215; clear BK216; clear HB; have BK215 := n0_; have BK216 := n1_; have HB := n2_; have BK217 := n3_; have GW217 := n4_; have GE217 := n5_; have NB215_217 := n6_; have NB217_215 := n7_; have NB216_217 := n8_; have NB217_216 := n9_; clear n0_ n1_ n2_ n3_ n4_ n5_ n6_ n7_ n8_ n9_; clear hb hbox hg; have hnb9 := NB215_216.out; have hnc9 := NB216_215.out; have hnb10 := NB215_217.out; have hnc10 := NB217_215.out; have hcz11_0 : w8.cell? ⟨gb215, 0, none⟩ = some (.string a0_0) := (blk_cell BK215.out 0).trans rfl; have hcz11_1 : w8.cell? ⟨gb215, 1, none⟩ = some (.int .i64 a0_1) := (blk_cell BK215.out 1).trans rfl; have hfz11_0 := blk_frozen BK215.out 0; have hfz11_1 := blk_frozen BK215.out 1; have hnb12 := NB216_217.out; have hnc12 := NB217_216.out; have hcz13_0 : w8.cell? ⟨gb216, 0, none⟩ = some (.string a1_0) := (blk_cell BK216.out 0).trans rfl; have hcz13_1 : w8.cell? ⟨gb216, 1, none⟩ = some (.int .i64 a1_1) := (blk_cell BK216.out 1).trans rfl; have hfz13_0 := blk_frozen BK216.out 0; have hfz13_1 := blk_frozen BK216.out 1) | (go_at_call 49; (with_reducible refine (bigdec_two.calls k a0_0 a0_1 a1_0 a1_1 t218 t219 t220 t221 t222 _ A3.out).mono ?_); rintro e w14 ⟨rfl, hb⟩; have n0_ := Aside0.mk (blk_below (g := gb215) (o := .cells #[.string a0_0, .int .i64 a0_1] 28 (0, 0)) (by (with_reducible repeat (first | refine blk_drewN ?_ _ | refine blk_drew ?_ | refine blk_alloc ?_ _)); exact BK215.out) hb); have n1_ := Aside0.mk (blk_below (g := gb216) (o := .cells #[.string a1_0, .int .i64 a1_1] 28 (0, 0)) (by (with_reducible repeat (first | refine blk_drewN ?_ _ | refine blk_drew ?_ | refine blk_alloc ?_ _)); exact BK216.out) hb); have n2_ := Aside0.mk (blk_below (g := gb217) (o := .cells #[.string (⟨#[]⟩ : ByteArray), .int .i64 0] 28 (0, 0)) (by (with_reducible repeat (first | refine blk_drewN ?_ _ | refine blk_drew ?_ | refine blk_alloc ?_ _)); exact BK217.out) hb); have n3_ := Aside0.mk (below_step (by repeat (first | (with_reducible first | exact HB.out | apply below_alloc | apply pw_below_drewN | apply below_drew1 | refine below_set ?_ GE215.out | refine below_set ?_ GE216.out | refine below_set ?_ GE217.out) | exact HB.out)) hb); clear BK215; clear BK216; clear BK217; clear HB; have BK215 := n0_; have BK216 := n1_; have BK217 := n2_; have HB := n3_; clear n0_ n1_ n2_ n3_; (try clear hb); (try clear hb2); (try clear hk); (try clear hi); have hcz15_0 : w14.cell? ⟨gb215, 0, none⟩ = some (.string a0_0) := (blk_cell BK215.out 0).trans rfl; have hcz15_1 : w14.cell? ⟨gb215, 1, none⟩ = some (.int .i64 a0_1) := (blk_cell BK215.out 1).trans rfl; have hfz15_0 := blk_frozen BK215.out 0; have hfz15_1 := blk_frozen BK215.out 1; have hcz16_0 : w14.cell? ⟨gb216, 0, none⟩ = some (.string a1_0) := (blk_cell BK216.out 0).trans rfl; have hcz16_1 : w14.cell? ⟨gb216, 1, none⟩ = some (.int .i64 a1_1) := (blk_cell BK216.out 1).trans rfl; have hfz16_0 := blk_frozen BK216.out 0; have hfz16_1 := blk_frozen BK216.out 1; have hcz17_0 : w14.cell? ⟨gb217, 0, none⟩ = some (.string (⟨#[]⟩ : ByteArray)) := (blk_cell BK217.out 0).trans rfl; have hcz17_1 : w14.cell? ⟨gb217, 1, none⟩ = some (.int .i64 0) := (blk_cell BK217.out 1).trans rfl; have hfz17_0 := blk_frozen BK217.out 0; have hfz17_1 := blk_frozen BK217.out 1))
   refine bodyPost_ret (results_ct rfl _ _ gb217 28 #[.string t220, .int .i64 t221] (0, 0) _ rfl (by (with_reducible repeat (first | refine blk_drewN ?_ _ | refine blk_drew ?_ | refine blk_alloc ?_ _)); refine blk_put (cs := #[.string t220, .int .i64 0]) ?_ 1 _ rfl; (with_reducible repeat (first | refine blk_drewN ?_ _ | refine blk_drew ?_ | refine blk_alloc ?_ _)); refine blk_put (cs := #[.string (⟨#[]⟩ : ByteArray), .int .i64 0]) ?_ 0 _ rfl; (with_reducible repeat (first | refine blk_drewN ?_ _ | refine blk_drew ?_ | refine blk_alloc ?_ _)); refine blk_far ?_ NB217_216.out _; (with_reducible repeat (first | refine blk_drewN ?_ _ | refine blk_drew ?_ | refine blk_alloc ?_ _)); refine blk_far ?_ NB217_216.out _; (with_reducible repeat (first | refine blk_drewN ?_ _ | refine blk_drew ?_ | refine blk_alloc ?_ _)); refine blk_far ?_ NB217_215.out _; (with_reducible repeat (first | refine blk_drewN ?_ _ | refine blk_drew ?_ | refine blk_alloc ?_ _)); refine blk_far ?_ NB217_215.out _; (with_reducible repeat (first | refine blk_drewN ?_ _ | refine blk_drew ?_ | refine blk_alloc ?_ _)); exact BK217.out) Tryd.underlying28 rfl (by kernel_rfl)) rfl ?_
   exact ⟨by first | rfl | (simp [errW_none, errW_some] <;> rfl) | (simp [*, errW_none, errW_some] <;> rfl), by repeat (first | (with_reducible first | exact HB.out | apply below_alloc | apply pw_below_drewN | apply below_drew1 | refine below_set ?_ GE215.out | refine below_set ?_ GE216.out | refine below_set ?_ GE217.out) | exact HB.out)⟩
  ·rw [if_neg c5] at H
   have c5b0 : (t218.toList == ([] : List UInt8)) = false := beq_eq_false_iff_ne.mpr c5
   have c5b1 : (t218.toList != ([] : List UInt8)) = true := bne_iff_ne.mpr c5
   by_cases c18 : t220.toList = ([] : List UInt8)
   ·rw [if_pos c18] at H
    have c18b0 : (t220.toList == ([] : List UInt8)) = true := beq_iff_eq.mpr c18
    have c18b1 : (t220.toList != ([] : List UInt8)) = false := bne_eq_false_iff_eq.mpr c18
    clear c18
    simp only [Option.some.injEq, Prod.mk.injEq] at H
    obtain ⟨rfl, rfl, rfl⟩ := H
    go_enter Tryd.func23, Tryd.ntmps23
    go_wp2_with (first | ((with_reducible refine gate_dst (N := 2) rfl ?_); (try (refine gate_guard (by rfl) ?_; dsimp only)); refine box_event ?hg (N := 2) ?hd (cs := #[.string a0_0, .int .i64 a0_1]) (t := 28) ?hr ?_; (case hd => rfl); (case hg => rfl); (case hr => first | (go_simp; done) | (go_simp; rfl)); intro gb215 hg w19 hbox hb; have n0_ := Aside0.mk (below_step (by repeat (first | (with_reducible first | exact HB.out | apply below_alloc | apply pw_below_drewN | apply below_drew1) | exact HB.out)) hb); have n1_ := Aside0.mk (hbox); have n2_ := Aside0.mk ((by rw [hg]; exact (below_size (by repeat (first | (with_reducible first | exact HB.out | apply below_alloc | apply pw_below_drewN | apply below_drew1) | exact HB.out))) : w.heap.size ≤ gb215)); have n3_ := Aside0.mk ((by rw [hg]; exact (below_size (by repeat (first | (with_reducible first | exact HB.out | apply below_alloc | apply pw_below_drewN | apply below_drew1) | exact HB.out))) : w.heap.size ≤ gb215)); clear HB; have HB := n0_; have BK215 := n1_; have GW215 := n2_; have GE215 := n3_; clear n0_ n1_ n2_ n3_; clear hb hbox hg) | ((with_reducible refine gate_dst (N := 3) rfl ?_); (try (refine gate_guard (by rfl) ?_; dsimp only)); refine box_event ?hg (N := 3) ?hd (cs := #[.string a1_0, .int .i64 a1_1]) (t := 28) ?hr ?_; (case hd => rfl); (case hg => rfl); (case hr => first | (go_simp; done) | (go_simp; rfl)); intro gb216 hg w20 hbox hb; have n0_ := Aside0.mk (blk_below (g := gb215) (o := .cells #[.string a0_0, .int .i64 a0_1] 28 (0, 0)) (by (with_reducible repeat (first | refine blk_drewN ?_ _ | refine blk_drew ?_ | refine blk_alloc ?_ _)); exact BK215.out) hb); have n1_ := Aside0.mk (below_step (by repeat (first | (with_reducible first | exact HB.out | apply below_alloc | apply pw_below_drewN | apply below_drew1 | refine below_set ?_ GE215.out) | exact HB.out)) hb); have n2_ := Aside0.mk (hbox); have n3_ := Aside0.mk ((by rw [hg]; exact (below_size (by repeat (first | (with_reducible first | exact HB.out | apply below_alloc | apply pw_below_drewN | apply below_drew1 | refine below_set ?_ GE215.out) | exact HB.out))) : w.heap.size ≤ gb216)); have n4_ := Aside0.mk ((by rw [hg]; exact (below_size (by repeat (first | (with_reducible first | exact HB.out | apply below_alloc | apply pw_below_drewN | apply below_drew1 | refine below_set ?_ GE215.out) | exact HB.out))) : w.heap.size ≤ gb216)); have n5_ := Aside0.mk ((by rw [hg]; exact Nat.ne_of_lt (blk_lt (g := gb215) (o := .cells #[.string a0_0, .int .i64 a0_1] 28 (0, 0)) (by (with_reducible repeat (first | refine blk_drewN ?_ _ | refine blk_drew ?_ | refine blk_alloc ?_ _)); exact BK215.out)) : gb215 ≠ gb216)); have n6_ := Aside0.mk ((by rw [hg]; exact Nat.ne_of_gt (blk_lt (g := gb215) (o := .cells #[.string a0_0, .int .i64 a0_1] 28 (0, 0)) (by (with_reducible repeat (first | refine blk_drewN ?_ _ | refine blk_drew ?_ | refine blk_alloc ?_ _)); exact BK215.out)) : gb216 ≠ gb215)); clear BK215; clear HB; have BK215 := n0_; have HB := n1_; have BK216 := n2_; have GW216 := n3_; have GE216 := n4_; have NB215_216 := n5_; have NB216_215 := n6_; clear n0_ n1_ n2_ n3_ n4_ n5_ n6_; clear hb hbox hg) | ((with_reducible refine gate_dst (N := 4) rfl ?_); (try (refine gate_guard (by rfl) ?_; dsimp only)); refine box_event ?hg (N := 4) ?hd (cs := #[.string (⟨#[]⟩ : ByteArray), .int .i64 0]) (t := 28) ?hr ?_; (case hd => rfl); (case hg => rfl); (case hr => first | (go_simp; done) | (go_simp; rfl)); intro gb217 hg w21 hbox hb; have n0_ := Aside0.mk (blk_below (g := gb215) (o := .cells #[.string a0_0, .int .i64 a0_1] 28 (0, 0)) (by (with_reducible repeat (first | refine blk_drewN ?_ _ | refine blk_drew ?_ | refine blk_alloc ?_ _)); exact BK215.out) hb); have n1_ := Aside0.mk (blk_below (g := gb216) (o := .cells #[.string a1_0, .int .i64 a1_1] 28 (0, 0)) (by (with_reducible repeat (first | refine blk_drewN ?_ _ | refine blk_drew ?_ | refine blk_alloc ?_ _)); exact BK216.out) hb); have n2_ := Aside0.mk (below_step (by repeat (first | (with_reducible first | exact HB.out | apply below_alloc | apply pw_below_drewN | apply below_drew1 | refine below_set ?_ GE215.out | refine below_set ?_ GE216.out) | exact HB.out)) hb); have n3_ := Aside0.mk (hbox); have n4_ := Aside0.mk ((by rw [hg]; exact (below_size (by repeat (first | (with_reducible first | exact HB.out | apply below_alloc | apply pw_below_drewN | apply below_drew1 | refine below_set ?_ GE215.out | refine below_set ?_ GE216.out) | exact HB.out))) : w.heap.size ≤ gb217)); have n5_ := Aside0.mk ((by rw [hg]; exact (below_size (by repeat (first | (with_reducible first | exact HB.out | apply below_alloc | apply pw_below_drewN | apply below_drew1 | refine below_set ?_ GE215.out | refine below_set ?_ GE216.out) | exact HB.out))) : w.heap.size ≤ gb217)); have n6_ := Aside0.mk ((by rw [hg]; exact Nat.ne_of_lt (blk_lt (g := gb215) (o := .cells #[.string a0_0, .int .i64 a0_1] 28 (0, 0)) (by (with_reducible repeat (first | refine blk_drewN ?_ _ | refine blk_drew ?_ | refine blk_alloc ?_ _)); exact BK215.out)) : gb215 ≠ gb217)); have n7_ := Aside0.mk ((by rw [hg]; exact Nat.ne_of_gt (blk_lt (g := gb215) (o := .cells #[.string a0_0, .int .i64 a0_1] 28 (0, 0)) (by (with_reducible repeat (first | refine blk_drewN ?_ _ | refine blk_drew ?_ | refine blk_alloc ?_ _)); exact BK215.out)) : gb217 ≠ gb215)); have n8_ := Aside0.mk ((by rw [hg]; exact Nat.ne_of_lt (blk_lt (g := gb216) (o := .cells #[.string a1_0, .int .i64 a1_1] 28 (0, 0)) (by (with_reducible repeat (first | refine blk_drewN ?_ _ | refine blk_drew ?_ | refine blk_alloc ?_ _)); exact BK216.out)) : gb216 ≠ gb217)); have n9_ := Aside0.mk ((by rw [hg]; exact Nat.ne_of_gt (blk_lt (g := gb216) (o := .cells #[.string a1_0, .int .i64 a1_1] 28 (0, 0)) (by (with_reducible repeat (first | refine blk_drewN ?_ _ | refine blk_drew ?_ | refine blk_alloc ?_ _)); exact BK216.out)) : gb217 ≠ gb216)); clear BK215; clear BK216; clear HB; have BK215 := n0_; have BK216 := n1_; have HB := n2_; have BK217 := n3_; have GW217 := n4_; have GE217 := n5_; have NB215_217 := n6_; have NB217_215 := n7_; have NB216_217 := n8_; have NB217_216 := n9_; clear n0_ n1_ n2_ n3_ n4_ n5_ n6_ n7_ n8_ n9_; clear hb hbox hg; have hnb22 := NB215_216.out; have hnc22 := NB216_215.out; have hnb23 := NB215_217.out; have hnc23 := NB217_215.out; have hcz24_0 : w21.cell? ⟨gb215, 0, none⟩ = some (.string a0_0) := (blk_cell BK215.out 0).trans rfl; have hcz24_1 : w21.cell? ⟨gb215, 1, none⟩ = some (.int .i64 a0_1) := (blk_cell BK215.out 1).trans rfl; have hfz24_0 := blk_frozen BK215.out 0; have hfz24_1 := blk_frozen BK215.out 1; have hnb25 := NB216_217.out; have hnc25 := NB217_216.out; have hcz26_0 : w21.cell? ⟨gb216, 0, none⟩ = some (.string a1_0) := (blk_cell BK216.out 0).trans rfl; have hcz26_1 : w21.cell? ⟨gb216, 1, none⟩ = some (.int .i64 a1_1) := (blk_cell BK216.out 1).trans rfl; have hfz26_0 := blk_frozen BK216.out 0; have hfz26_1 := blk_frozen BK216.out 1) | (go_at_call 49; (with_reducible refine (bigdec_two.calls k a0_0 a0_1 a1_0 a1_1 t218 t219 t220 t221 t222 _ A3.out).mono ?_); rintro e w27 ⟨rfl, hb⟩; have n0_ := Aside0.mk (blk_below (g := gb215) (o := .cells #[.string a0_0, .int .i64 a0_1] 28 (0, 0)) (by (with_reducible repeat (first | refine blk_drewN ?_ _ | refine blk_drew ?_ | refine blk_alloc ?_ _)); exact BK215.out) hb); have n1_ := Aside0.mk (blk_below (g := gb216) (o := .cells #[.string a1_0, .int .i64 a1_1] 28 (0, 0)) (by (with_reducible repeat (first | refine blk_drewN ?_ _ | refine blk_drew ?_ | refine blk_alloc ?_ _)); exact BK216.out) hb); have n2_ := Aside0.mk (blk_below (g := gb217) (o := .cells #[.string (⟨#[]⟩ : ByteArray), .int .i64 0] 28 (0, 0)) (by (with_reducible repeat (first | refine blk_drewN ?_ _ | refine blk_drew ?_ | refine blk_alloc ?_ _)); exact BK217.out) hb); have n3_ := Aside0.mk (below_step (by repeat (first | (with_reducible first | exact HB.out | apply below_alloc | apply pw_below_drewN | apply below_drew1 | refine below_set ?_ GE215.out | refine below_set ?_ GE216.out | refine below_set ?_ GE217.out) | exact HB.out)) hb); clear BK215; clear BK216; clear BK217; clear HB; have BK215 := n0_; have BK216 := n1_; have BK217 := n2_; have HB := n3_; clear n0_ n1_ n2_ n3_; (try clear hb); (try clear hb2); (try clear hk); (try clear hi); have hcz28_0 : w27.cell? ⟨gb215, 0, none⟩ = some (.string a0_0) := (blk_cell BK215.out 0).trans rfl; have hcz28_1 : w27.cell? ⟨gb215, 1, none⟩ = some (.int .i64 a0_1) := (blk_cell BK215.out 1).trans rfl; have hfz28_0 := blk_frozen BK215.out 0; have hfz28_1 := blk_frozen BK215.out 1; have hcz29_0 : w27.cell? ⟨gb216, 0, none⟩ = some (.string a1_0) := (blk_cell BK216.out 0).trans rfl; have hcz29_1 : w27.cell? ⟨gb216, 1, none⟩ = some (.int .i64 a1_1) := (blk_cell BK216.out 1).trans rfl; have hfz29_0 := blk_frozen BK216.out 0; have hfz29_1 := blk_frozen BK216.out 1; have hcz30_0 : w27.cell? ⟨gb217, 0, none⟩ = some (.string (⟨#[]⟩ : ByteArray)) := (blk_cell BK217.out 0).trans rfl; have hcz30_1 : w27.cell? ⟨gb217, 1, none⟩ = some (.int .i64 0) := (blk_cell BK217.out 1).trans rfl; have hfz30_0 := blk_frozen BK217.out 0; have hfz30_1 := blk_frozen BK217.out 1))
    refine bodyPost_ret (results_ct rfl _ _ gb217 28 #[.string t218, .int .i64 t219] (0, 0) _ rfl (by (with_reducible repeat (first | refine blk_drewN ?_ _ | refine blk_drew ?_ | refine blk_alloc ?_ _)); refine blk_put (cs := #[.string t218, .int .i64 0]) ?_ 1 _ rfl; (with_reducible repeat (first | refine blk_drewN ?_ _ | refine blk_drew ?_ | refine blk_alloc ?_ _)); refine blk_put (cs := #[.string (⟨#[]⟩ : ByteArray), .int .i64 0]) ?_ 0 _ rfl; (with_reducible repeat (first | refine blk_drewN ?_ _ | refine blk_drew ?_ | refine blk_alloc ?_ _)); refine blk_far ?_ NB217_216.out _; (with_reducible repeat (first | refine blk_drewN ?_ _ | refine blk_drew ?_ | refine blk_alloc ?_ _)); refine blk_far ?_ NB217_216.out _; (with_reducible repeat (first | refine blk_drewN ?_ _ | refine blk_drew ?_ | refine blk_alloc ?_ _)); refine blk_far ?_ NB217_215.out _; (with_reducible repeat (first | refine blk_drewN ?_ _ | refine blk_drew ?_ | refine blk_alloc ?_ _)); refine blk_far ?_ NB217_215.out _; (with_reducible repeat (first | refine blk_drewN ?_ _ | refine blk_drew ?_ | refine blk_alloc ?_ _)); exact BK217.out) Tryd.underlying28 rfl (by kernel_rfl)) rfl ?_
    exact ⟨by first | rfl | (simp [errW_none, errW_some] <;> rfl) | (simp [*, errW_none, errW_some] <;> rfl), by repeat (first | (with_reducible first | exact HB.out | apply below_alloc | apply pw_below_drewN | apply below_drew1 | refine below_set ?_ GE215.out | refine below_set ?_ GE216.out | refine below_set ?_ GE217.out) | exact HB.out)⟩
   ·rw [if_neg c18] at H
    have c18b0 : (t220.toList == ([] : List UInt8)) = false := beq_eq_false_iff_ne.mpr c18
    have c18b1 : (t220.toList != ([] : List UInt8)) = true := bne_iff_ne.mpr c18
    replace H := Option.bind_eq_some_iff.mp H
    obtain ⟨t223, A310, H⟩ := H
    replace H : (if t223 < 0 then (bigdec_Add.j0 k t220 t221 t218 t219) else (bigdec_Add.j0 k t218 t219 t220 t221)) = some (r1, r2, r3) := H
    have A31 := Aside0.mk A310
    clear A310
    have HC32 := Aside0.mk H
    clear H
    go_enter Tryd.func23, Tryd.ntmps23
    go_upto_if 40 with (first | ((with_reducible refine gate_dst (N := 2) rfl ?_); (try (refine gate_guard (by rfl) ?_; dsimp only)); refine box_event ?hg (N := 2) ?hd (cs := #[.string a0_0, .int .i64 a0_1]) (t := 28) ?hr ?_; (case hd => rfl); (case hg => rfl); (case hr => first | (go_simp; done) | (go_simp; rfl)); intro gb215 hg w33 hbox hb; have n0_ := Aside0.mk (below_step (by repeat (first | (with_reducible first | exact HB.out | apply below_alloc | apply pw_below_drewN | apply below_drew1) | exact HB.out)) hb); have n1_ := Aside0.mk (hbox); have n2_ := Aside0.mk ((by rw [hg]; exact (below_size (by repeat (first | (with_reducible first | exact HB.out | apply below_alloc | apply pw_below_drewN | apply below_drew1) | exact HB.out))) : w.heap.size ≤ gb215)); have n3_ := Aside0.mk ((by rw [hg]; exact (below_size (by repeat (first | (with_reducible first | exact HB.out | apply below_alloc | apply pw_below_drewN | apply below_drew1) | exact HB.out))) : w.heap.size ≤ gb215)); clear HB; have HB := n0_; have BK215 := n1_; have GW215 := n2_; have GE215 := n3_; clear n0_ n1_ n2_ n3_; clear hb hbox hg) | ((with_reducible refine gate_dst (N := 3) rfl ?_); (try (refine gate_guard (by rfl) ?_; dsimp only)); refine box_event ?hg (N := 3) ?hd (cs := #[.string a1_0, .int .i64 a1_1]) (t := 28) ?hr ?_; (case hd => rfl); (case hg => rfl); (case hr => first | (go_simp; done) | (go_simp; rfl)); intro gb216 hg w34 hbox hb; have n0_ := Aside0.mk (blk_below (g := gb215) (o := .cells #[.string a0_0, .int .i64 a0_1] 28 (0, 0)) (by (with_reducible repeat (first | refine blk_drewN ?_ _ | refine blk_drew ?_ | refine blk_alloc ?_ _)); exact BK215.out) hb); have n1_ := Aside0.mk (below_step (by repeat (first | (with_reducible first | exact HB.out | apply below_alloc | apply pw_below_drewN | apply below_drew1 | refine below_set ?_ GE215.out) | exact HB.out)) hb); have n2_ := Aside0.mk (hbox); have n3_ := Aside0.mk ((by rw [hg]; exact (below_size (by repeat (first | (with_reducible first | exact HB.out | apply below_alloc | apply pw_below_drewN | apply below_drew1 | refine below_set ?_ GE215.out) | exact HB.out))) : w.heap.size ≤ gb216)); have n4_ := Aside0.mk ((by rw [hg]; exact (below_size (by repeat (first | (with_reducible first | exact HB.out | apply below_alloc | apply pw_below_drewN | apply below_drew1 | refine below_set ?_ GE215.out) | exact HB.out))) : w.heap.size ≤ gb216)); have n5_ := Aside0.mk ((by rw [hg]; exact Nat.ne_of_lt (blk_lt (g := gb215) (o := .cells #[.string a0_0, .int .i64 a0_1] 28 (0, 0)) (by (with_reducible repeat (first | refine blk_drewN ?_ _ | refine blk_drew ?_ | refine blk_alloc ?_ _)); exact BK215.out)) : gb215 ≠ gb216)); have n6_ := Aside0.mk ((by rw [hg]; exact Nat.ne_of_gt (blk_lt (g := gb215) (o := .cells #[.string a0_0, .int .i64 a0_1] 28 (0, 0)) (by (with_reducible repeat (first | refine blk_drewN ?_ _ | refine blk_drew ?_ | refine blk_alloc ?_ _)); exact BK215.out)) : gb216 ≠ gb215)); clear BK215; clear HB; have BK215 := n0_; have HB := n1_; have BK216 := n2_; have GW216 := n3_; have GE216 := n4_; have NB215_216 := n5_; have NB216_215 := n6_; clear n0_ n1_ n2_ n3_ n4_ n5_ n6_; clear hb hbox hg) | ((with_reducible refine gate_dst (N := 4) rfl ?_); (try (refine gate_guard (by rfl) ?_; dsimp only)); refine box_event ?hg (N := 4) ?hd (cs := #[.string (⟨#[]⟩ : ByteArray), .int .i64 0]) (t := 28) ?hr ?_; (case hd => rfl); (case hg => rfl); (case hr => first | (go_simp; done) | (go_simp; rfl)); intro gb217 hg w35 hbox hb; have n0_ := Aside0.mk (blk_below (g := gb215) (o := .cells #[.string a0_0, .int .i64 a0_1] 28 (0, 0)) (by (with_reducible repeat (first | refine blk_drewN ?_ _ | refine blk_drew ?_ | refine blk_alloc ?_ _)); exact BK215.out) hb); have n1_ := Aside0.mk (blk_below (g := gb216) (o := .cells #[.string a1_0, .int .i64 a1_1] 28 (0, 0)) (by (with_reducible repeat (first | refine blk_drewN ?_ _ | refine blk_drew ?_ | refine blk_alloc ?_ _)); exact BK216.out) hb); have n2_ := Aside0.mk (below_step (by repeat (first | (with_reducible first | exact HB.out | apply below_alloc | apply pw_below_drewN | apply below_drew1 | refine below_set ?_ GE215.out | refine below_set ?_ GE216.out) | exact HB.out)) hb); have n3_ := Aside0.mk (hbox); have n4_ := Aside0.mk ((by rw [hg]; exact (below_size (by repeat (first | (with_reducible first | exact HB.out | apply below_alloc | apply pw_below_drewN | apply below_drew1 | refine below_set ?_ GE215.out | refine below_set ?_ GE216.out) | exact HB.out))) : w.heap.size ≤ gb217)); have n5_ := Aside0.mk ((by rw [hg]; exact (below_size (by repeat (first | (with_reducible first | exact HB.out | apply below_alloc | apply pw_below_drewN | apply below_drew1 | refine below_set ?_ GE215.out | refine below_set ?_ GE216.out) | exact HB.out))) : w.heap.size ≤ gb217)); have n6_ := Aside0.mk ((by rw [hg]; exact Nat.ne_of_lt (blk_lt (g := gb215) (o := .cells #[.string a0_0, .int .i64 a0_1] 28 (0, 0)) (by (with_reducible repeat (first | refine blk_drewN ?_ _ | refine blk_drew ?_ | refine blk_alloc ?_ _)); exact BK215.out)) : gb215 ≠ gb217)); have n7_ := Aside0.mk ((by rw [hg]; exact Nat.ne_of_gt (blk_lt (g := gb215) (o := .cells #[.string a0_0, .int .i64 a0_1] 28 (0, 0)) (by (with_reducible repeat (first | refine blk_drewN ?_ _ | refine blk_drew ?_ | refine blk_alloc ?_ _)); exact BK215.out)) : gb217 ≠ gb215)); have n8_ := Aside0.mk ((by rw [hg]; exact Nat.ne_of_lt (blk_lt (g := gb216) (o := .cells #[.string a1_0, .int .i64 a1_1] 28 (0, 0)) (by (with_reducible repeat (first | refine blk_drewN ?_ _ | refine blk_drew ?_ | refine blk_alloc ?_ _)); exact BK216.out)) : gb216 ≠ gb217)); have n9_ := Aside0.mk ((by rw [hg]; exact Nat.ne_of_gt (blk_lt (g := gb216) (o := .cells #[.string a1_0, .int .i64 a1_1] 28 (0, 0)) (by (with_reducible repeat (first | refine blk_drewN ?_ _ | refine blk_drew ?_ | refine blk_alloc ?_ _)); exact BK216.out)) : gb217 ≠ gb216)); clear BK215; clear BK216; clear HB; have BK215 := n0_; have BK216 := n1_; have HB := n2_; have BK217 := n3_; have GW217 := n4_; have GE217 := n5_; have NB215_217 := n6_; have NB217_215 := n7_; have NB216_217 := n8_; have NB217_216 := n9_; clear n0_ n1_ n2_ n3_ n4_ n5_ n6_ n7_ n8_ n9_; clear hb hbox hg; have hnb36 := NB215_216.out; have hnc36 := NB216_215.out; have hnb37 := NB215_217.out; have hnc37 := NB217_215.out; have hcz38_0 : w35.cell? ⟨gb215, 0, none⟩ = some (.string a0_0) := (blk_cell BK215.out 0).trans rfl; have hcz38_1 : w35.cell? ⟨gb215, 1, none⟩ = some (.int .i64 a0_1) := (blk_cell BK215.out 1).trans rfl; have hfz38_0 := blk_frozen BK215.out 0; have hfz38_1 := blk_frozen BK215.out 1; have hnb39 := NB216_217.out; have hnc39 := NB217_216.out; have hcz40_0 : w35.cell? ⟨gb216, 0, none⟩ = some (.string a1_0) := (blk_cell BK216.out 0).trans rfl; have hcz40_1 : w35.cell? ⟨gb216, 1, none⟩ = some (.int .i64 a1_1) := (blk_cell BK216.out 1).trans rfl; have hfz40_0 := blk_frozen BK216.out 0; have hfz40_1 := blk_frozen BK216.out 1) | (go_at_call 49; (with_reducible refine (bigdec_two.calls k a0_0 a0_1 a1_0 a1_1 t218 t219 t220 t221 t222 _ A3.out).mono ?_); rintro e w41 ⟨rfl, hb⟩; have n0_ := Aside0.mk (blk_below (g := gb215) (o := .cells #[.string a0_0, .int .i64 a0_1] 28 (0, 0)) (by (with_reducible repeat (first | refine blk_drewN ?_ _ | refine blk_drew ?_ | refine blk_alloc ?_ _)); exact BK215.out) hb); have n1_ := Aside0.mk (blk_below (g := gb216) (o := .cells #[.string a1_0, .int .i64 a1_1] 28 (0, 0)) (by (with_reducible repeat (first | refine blk_drewN ?_ _ | refine blk_drew ?_ | refine blk_alloc ?_ _)); exact BK216.out) hb); have n2_ := Aside0.mk (blk_below (g := gb217) (o := .cells #[.string (⟨#[]⟩ : ByteArray), .int .i64 0] 28 (0, 0)) (by (with_reducible repeat (first | refine blk_drewN ?_ _ | refine blk_drew ?_ | refine blk_alloc ?_ _)); exact BK217.out) hb); have n3_ := Aside0.mk (below_step (by repeat (first | (with_reducible first | exact HB.out | apply below_alloc | apply pw_below_drewN | apply below_drew1 | refine below_set ?_ GE215.out | refine below_set ?_ GE216.out | refine below_set ?_ GE217.out) | exact HB.out)) hb); clear BK215; clear BK216; clear BK217; clear HB; have BK215 := n0_; have BK216 := n1_; have BK217 := n2_; have HB := n3_; clear n0_ n1_ n2_ n3_; (try clear hb); (try clear hb2); (try clear hk); (try clear hi); have hcz42_0 : w41.cell? ⟨gb215, 0, none⟩ = some (.string a0_0) := (blk_cell BK215.out 0).trans rfl; have hcz42_1 : w41.cell? ⟨gb215, 1, none⟩ = some (.int .i64 a0_1) := (blk_cell BK215.out 1).trans rfl; have hfz42_0 := blk_frozen BK215.out 0; have hfz42_1 := blk_frozen BK215.out 1; have hcz43_0 : w41.cell? ⟨gb216, 0, none⟩ = some (.string a1_0) := (blk_cell BK216.out 0).trans rfl; have hcz43_1 : w41.cell? ⟨gb216, 1, none⟩ = some (.int .i64 a1_1) := (blk_cell BK216.out 1).trans rfl; have hfz43_0 := blk_frozen BK216.out 0; have hfz43_1 := blk_frozen BK216.out 1) | (go_at_call 50; (with_reducible refine (bigdec_cmp.calls k t218 t219 t220 t221 t223 _ A31.out).mono ?_); rintro e w44 ⟨rfl, hb⟩; have n0_ := Aside0.mk (blk_below (g := gb215) (o := .cells #[.string t218, .int .i64 t219] 28 (0, 0)) (by (with_reducible repeat (first | refine blk_drewN ?_ _ | refine blk_drew ?_ | refine blk_alloc ?_ _)); refine blk_far ?_ NB215_216.out _; (with_reducible repeat (first | refine blk_drewN ?_ _ | refine blk_drew ?_ | refine blk_alloc ?_ _)); refine blk_far ?_ NB215_216.out _; (with_reducible repeat (first | refine blk_drewN ?_ _ | refine blk_drew ?_ | refine blk_alloc ?_ _)); refine blk_put (cs := #[.string t218, .int .i64 a0_1]) ?_ 1 _ rfl; (with_reducible repeat (first | refine blk_drewN ?_ _ | refine blk_drew ?_ | refine blk_alloc ?_ _)); refine blk_put (cs := #[.string a0_0, .int .i64 a0_1]) ?_ 0 _ rfl; (with_reducible repeat (first | refine blk_drewN ?_ _ | refine blk_drew ?_ | refine blk_alloc ?_ _)); exact BK215.out) hb); have n1_ := Aside0.mk (blk_below (g := gb216) (o := .cells #[.string t220, .int .i64 t221] 28 (0, 0)) (by (with_reducible repeat (first | refine blk_drewN ?_ _ | refine blk_drew ?_ | refine blk_alloc ?_ _)); refine blk_put (cs := #[.string t220, .int .i64 a1_1]) ?_ 1 _ rfl; (with_reducible repeat (first | refine blk_drewN ?_ _ | refine blk_drew ?_ | refine blk_alloc ?_ _)); refine blk_put (cs := #[.string a1_0, .int .i64 a1_1]) ?_ 0 _ rfl; (with_reducible repeat (first | refine blk_drewN ?_ _ | refine blk_drew ?_ | refine blk_alloc ?_ _)); refine blk_far ?_ NB216_215.out _; (with_reducible repeat (first | refine blk_drewN ?_ _ | refine blk_drew ?_ | refine blk_alloc ?_ _)); refine blk_far ?_ NB216_215.out _; (with_reducible repeat (first | refine blk_drewN ?_ _ | refine blk_drew ?_ | refine blk_alloc ?_ _)); exact BK216.out) hb); have n2_ := Aside0.mk (blk_below (g := gb217) (o := .cells #[.string (⟨#[]⟩ : ByteArray), .int .i64 0] 28 (0, 0)) (by (with_reducible repeat (first | refine blk_drewN ?_ _ | refine blk_drew ?_ | refine blk_alloc ?_ _)); refine blk_far ?_ NB217_216.out _; (with_reducible repeat (first | refine blk_drewN ?_ _ | refine blk_drew ?_ | refine blk_alloc ?_ _)); refine blk_far ?_ NB217_216.out _; (with_reducible repeat (first | refine blk_drewN ?_ _ | refine blk_drew ?_ | refine blk_alloc ?_ _)); refine blk_far ?_ NB217_215.out _; (with_reducible repeat (first | refine blk_drewN ?_ _ | refine blk_drew ?_ | refine blk_alloc ?_ _)); refine blk_far ?_ NB217_215.out _; (with_reducible repeat (first | refine blk_drewN ?_ _ | refine blk_drew ?_ | refine blk_alloc ?_ _)); exact BK217.out) hb); have n3_ := Aside0.mk (below_step (by repeat (first | (with_reducible first | exact HB.out | apply below_alloc | apply pw_below_drewN | apply below_drew1 | refine below_set ?_ GE215.out | refine below_set ?_ GE216.out | refine below_set ?_ GE217.out) | exact HB.out)) hb); clear BK215; clear BK216; clear BK217; clear HB; have BK215 := n0_; have BK216 := n1_; have BK217 := n2_; have HB := n3_; clear n0_ n1_ n2_ n3_; (try clear hb); (try clear hb2); (try clear hk); (try clear hi)))
    (try simp only [Act.put, List.setIfInBounds_toArray, List.set_cons_zero, List.set_cons_succ])
    go_cut [] (fun wc => ∃ (kq : Nat) (x216000_31 : ByteArray) (x216001_31 : Int) (x217000_31 : ByteArray) (x217001_31 : Int), Aside0 (bigdec_Add.j0 kq x216000_31 x216001_31 x217000_31 x217001_31 = some (r1, r2, r3)) ∧ Aside0 (kq ≤ k) ∧ Aside0 (wc.heap[gb215]? = some (.cells #[.string x216000_31, .int .i64 x216001_31] 28 (0, 0))) ∧ Aside0 (wc.heap[gb216]? = some (.cells #[.string x217000_31, .int .i64 x217001_31] 28 (0, 0))) ∧ Aside0 (wc.heap[gb217]? = some (.cells #[.string (⟨#[]⟩ : ByteArray), .int .i64 0] 28 (0, 0))) ∧ Aside0 (Below w.heap.size w wc))
    case first =>
     have H := HC32.out
     clear HC32
     by_cases c45 : t223 < 0
     ·rw [if_pos c45] at H
      have c45b0 : decide (t223 < 0) = true := decide_eq_true c45
      clear c45
      (first | rw [c45b0] | (simp only [i64_w, i32_w]; rw [c45b0]) | skip)
      have H' := Aside0.mk H
      clear H
      have hnb46 := NB216_215.out
      have hnc46 := NB215_216.out
      have hnb47 := NB216_217.out
      have hnc47 := NB217_216.out
      have hcz48_0 : w44.cell? ⟨gb216, 0, none⟩ = some (.string t220) := (blk_cell BK216.out 0).trans rfl
      have hcz48_1 : w44.cell? ⟨gb216, 1, none⟩ = some (.int .i64 t221) := (blk_cell BK216.out 1).trans rfl
      have hfz48_0 := blk_frozen BK216.out 0
      have hfz48_1 := blk_frozen BK216.out 1
      have hnb49 := NB215_217.out
      have hnc49 := NB217_215.out
      have hcz50_0 : w44.cell? ⟨gb215, 0, none⟩ = some (.string t218) := (blk_cell BK215.out 0).trans rfl
      have hcz50_1 : w44.cell? ⟨gb215, 1, none⟩ = some (.int .i64 t219) := (blk_cell BK215.out 1).trans rfl
      have hfz50_0 := blk_frozen BK215.out 0
      have hfz50_1 := blk_frozen BK215.out 1
      go_wp2
      go_meet
      case rel => exact ⟨_, (t220), (t221), (t218), (t219), H', ⟨by first | omega | exact Nat.le_refl _⟩, ⟨by (with_reducible repeat (first | refine blk_drewN ?_ _ | refine blk_drew ?_ | refine blk_alloc ?_ _)); refine blk_far ?_ NB215_216.out _; (with_reducible repeat (first | refine blk_drewN ?_ _ | refine blk_drew ?_ | refine blk_alloc ?_ _)); refine blk_far ?_ NB215_216.out _; (with_reducible repeat (first | refine blk_drewN ?_ _ | refine blk_drew ?_ | refine blk_alloc ?_ _)); refine blk_put (cs := #[.string t220, .int .i64 t219]) ?_ 1 _ rfl; (with_reducible repeat (first | refine blk_drewN ?_ _ | refine blk_drew ?_ | refine blk_alloc ?_ _)); refine blk_put (cs := #[.string t218, .int .i64 t219]) ?_ 0 _ rfl; (with_reducible repeat (first | refine blk_drewN ?_ _ | refine blk_drew ?_ | refine blk_alloc ?_ _)); exact BK215.out⟩, ⟨by (with_reducible repeat (first | refine blk_drewN ?_ _ | refine blk_drew ?_ | refine blk_alloc ?_ _)); refine blk_put (cs := #[.string t218, .int .i64 t221]) ?_ 1 _ rfl; (with_reducible repeat (first | refine blk_drewN ?_ _ | refine blk_drew ?_ | refine blk_alloc ?_ _)); refine blk_put (cs := #[.string t220, .int .i64 t221]) ?_ 0 _ rfl; (with_reducible repeat (first | refine blk_drewN ?_ _ | refine blk_drew ?_ | refine blk_alloc ?_ _)); refine blk_far ?_ NB216_215.out _; (with_reducible repeat (first | refine blk_drewN ?_ _ | refine blk_drew ?_ | refine blk_alloc ?_ _)); refine blk_far ?_ NB216_215.out _; (with_reducible repeat (first | refine blk_drewN ?_ _ | refine blk_drew ?_ | refine blk_alloc ?_ _)); exact BK216.out⟩, ⟨by (with_reducible repeat (first | refine blk_drewN ?_ _ | refine blk_drew ?_ | refine blk_alloc ?_ _)); refine blk_far ?_ NB217_216.out _; (with_reducible repeat (first | refine blk_drewN ?_ _ | refine blk_drew ?_ | refine blk_alloc ?_ _)); refine blk_far ?_ NB217_216.out _; (with_reducible repeat (first | refine blk_drewN ?_ _ | refine blk_drew ?_ | refine blk_alloc ?_ _)); refine blk_far ?_ NB217_215.out _; (with_reducible repeat (first | refine blk_drewN ?_ _ | refine blk_drew ?_ | refine blk_alloc ?_ _)); refine blk_far ?_ NB217_215.out _; (with_reducible repeat (first | refine blk_drewN ?_ _ | refine blk_drew ?_ | refine blk_alloc ?_ _)); exact BK217.out⟩, ⟨by repeat (first | (with_reducible first | exact HB.out | apply below_alloc | apply pw_below_drewN | apply below_drew1 | refine below_set ?_ GE215.out | refine below_set ?_ GE216.out | refine below_set ?_ GE217.out) | exact HB.out)⟩⟩
     ·rw [if_neg c45] at H
      have c45b0 : decide (t223 < 0) = false := decide_eq_false c45
      clear c45
      (first | rw [c45b0] | (simp only [i64_w, i32_w]; rw [c45b0]) | skip)
      have H' := Aside0.mk H
      clear H
      go_wp2
      go_meet
      case rel => exact ⟨_, (t218), (t219), (t220), (t221), H', ⟨by first | omega | exact Nat.le_refl _⟩, ⟨by (with_reducible repeat (first | refine blk_drewN ?_ _ | refine blk_drew ?_ | refine blk_alloc ?_ _)); exact BK215.out⟩, ⟨by (with_reducible repeat (first | refine blk_drewN ?_ _ | refine blk_drew ?_ | refine blk_alloc ?_ _)); exact BK216.out⟩, ⟨by (with_reducible repeat (first | refine blk_drewN ?_ _ | refine blk_drew ?_ | refine blk_alloc ?_ _)); exact BK217.out⟩, ⟨by repeat (first | (with_reducible first | exact HB.out | apply below_alloc | apply pw_below_drewN | apply below_drew1 | refine below_set ?_ GE215.out | refine below_set ?_ GE216.out | refine below_set ?_ GE217.out) | exact HB.out)⟩⟩
    case rest =>
     clear HC32
     try clear c4
     try clear c4b0
     try clear c4b1
     try clear c5
     try clear c5b0
     try clear c5b1
     try clear c18
     try clear c18b0
     try clear c18b1
     try clear c45
     try clear c45b0
     try clear hcz11_0
     try clear hcz11_1
     try clear hcz13_0
     try clear hcz13_1
     try clear hcz15_0
     try clear hcz15_1
     try clear hcz16_0
     try clear hcz16_1
     try clear hcz17_0
     try clear hcz17_1
     try clear hcz24_0
     try clear hcz24_1
     try clear hcz26_0
     try clear hcz26_1
     try clear hcz28_0
     try clear hcz28_1
     try clear hcz29_0
     try clear hcz29_1
     try clear hcz30_0
     try clear hcz30_1
     try clear hcz38_0
     try clear hcz38_1
     try clear hcz40_0
     try clear hcz40_1
     try clear hcz42_0
     try clear hcz42_1
     try clear hcz43_0
     try clear hcz43_1
     try clear hcz48_0
     try clear hcz48_1
     try clear hcz50_0
     try clear hcz50_1
     try clear hfz11_0
     try clear hfz11_1
     try clear hfz13_0
     try clear hfz13_1
     try clear hfz15_0
     try clear hfz15_1
     try clear hfz16_0
     try clear hfz16_1
     try clear hfz17_0
     try clear hfz17_1
     try clear hfz24_0
     try clear hfz24_1
     try clear hfz26_0
     try clear hfz26_1
     try clear hfz28_0
     try clear hfz28_1
     try clear hfz29_0
     try clear hfz29_1
     try clear hfz30_0
     try clear hfz30_1
     try clear hfz38_0
     try clear hfz38_1
     try clear hfz40_0
     try clear hfz40_1
     try clear hfz42_0
     try clear hfz42_1
     try clear hfz43_0
     try clear hfz43_1
     try clear hfz48_0
     try clear hfz48_1
     try clear hfz50_0
     try clear hfz50_1
     obtain ⟨kq, x216000_31, x216001_31, x217000_31, x217001_31, HA, HJ31, BK215, BK216, BK217, HB⟩ := hcut
     cases kq with
     | zero => exact absurd HA.out (by simp [bigdec_Add.j0])
     | succ kj31 =>
      have H := HA.out
      clear HA
      simp only [bigdec_Add.j0] at H
      obtain ⟨ji51, hji51⟩ : ∃ j_ : Int, (mn (wrap64 (x216001_31 - (x216000_31.size : Int))) (wrap64 (x217001_31 - (x217000_31.size : Int)))) = j_ := ⟨_, rfl⟩
      replace H : (if 0 ≤ (wrap64 ((wrap64 (x216001_31 - (ji51))) + 1)) then (if (wrap64 ((wrap64 (x216001_31 - (ji51))) + 1) : Int).toNat ≤ 281474976710656 then ((some (List.replicate (wrap64 ((wrap64 (x216001_31 - (ji51))) + 1) : Int).toNat 0 : List Int)).bind fun y224 => (bigdec_Add.l0 kj31 y224 (y224.length : Int) 0 x216000_31 x216001_31 x217000_31 x217001_31)) else (none)) else (none)) = some (r1, r2, r3) := by first | (rw [hji51] at H; exact H) | (simp only [hji51] at H ⊢; exact H)
      have hji51_ : (if (wrap64 (x217001_31 - (x217000_31.size : Int))) < (wrap64 (x216001_31 - (x216000_31.size : Int))) then (wrap64 (x217001_31 - (x217000_31.size : Int))) else (wrap64 (x216001_31 - (x216000_31.size : Int)))) = ji51 := hji51
      obtain ⟨ji52, hji52⟩ : ∃ j_ : Int, (wrap64 ((wrap64 (x216001_31 - (ji51))) + 1)) = j_ := ⟨_, rfl⟩
      replace H : (if 0 ≤ (ji52) then (if (ji52 : Int).toNat ≤ 281474976710656 then ((some (List.replicate (ji52 : Int).toNat 0 : List Int)).bind fun y224 => (bigdec_Add.l0 kj31 y224 (y224.length : Int) 0 x216000_31 x216001_31 x217000_31 x217001_31)) else (none)) else (none)) = some (r1, r2, r3) := by first | (rw [hji52] at H; exact H) | (simp only [hji52] at H ⊢; exact H)
      have hji52w : (IntKind.i64.wrap ((wrap64 (x216001_31 - (ji51))) + 1)) = ji52 := (i64_w _).trans hji52
      by_cases c53 : 0 ≤ (ji52)
      ·rw [if_pos c53] at H
       have c53b0 := eq_true c53
       have c53b1 : decide (0 ≤ (ji52)) = true := decide_eq_true c53
       clear c53
       by_cases c54 : (ji52 : Int).toNat ≤ 281474976710656
       ·rw [if_pos c54] at H
        have c54b0 := eq_true c54
        have c54b1 : decide ((ji52 : Int).toNat ≤ 281474976710656) = true := decide_eq_true c54
        clear c54
        obtain ⟨y224, hy224⟩ : ∃ y_ : List Int, y_ = (List.replicate (ji52 : Int).toNat 0) := ⟨_, rfl⟩
        replace H : (bigdec_Add.l0 kj31 y224 (y224.length : Int) 0 x216000_31 x216001_31 x217000_31 x217001_31) = some (r1, r2, r3) := by first | (rw [hy224]; with_reducible exact H) | (have H2_ := (Option.bind_some _ _).symm.trans H; rw [hy224]; with_reducible exact H2_) | (have H2_ := (Option.bind_some _ _).symm.trans H; with_reducible exact H2_) | with_reducible exact H | (rw [hy224]; exact H) | exact H
        have Ny224 := Aside0.mk hy224
        clear hy224
        have H' := Aside0.mk H
        clear H
        have hnb55 := NB215_216.out
        have hnc55 := NB216_215.out
        have hnb56 := NB215_217.out
        have hnc56 := NB217_215.out
        have hcz57_0 : wc.cell? ⟨gb215, 0, none⟩ = some (.string x216000_31) := (blk_cell BK215.out 0).trans rfl
        have hcz57_1 : wc.cell? ⟨gb215, 1, none⟩ = some (.int .i64 x216001_31) := (blk_cell BK215.out 1).trans rfl
        have hfz57_0 := blk_frozen BK215.out 0
        have hfz57_1 := blk_frozen BK215.out 1
        have hnb58 := NB216_217.out
        have hnc58 := NB217_216.out
        have hcz59_0 : wc.cell? ⟨gb216, 0, none⟩ = some (.string x217000_31) := (blk_cell BK216.out 0).trans rfl
        have hcz59_1 : wc.cell? ⟨gb216, 1, none⟩ = some (.int .i64 x217001_31) := (blk_cell BK216.out 1).trans rfl
        have hfz59_0 := blk_frozen BK216.out 0
        have hfz59_1 := blk_frozen BK216.out 1
        go_wp2_with (first | ((with_reducible refine gate_dst (N := 61) rfl ?_); (try (refine gate_guard (by rfl) ?_; dsimp only)); refine Kd.R_make (Kd.int .u8) _ 5 rfl (N := 61) rfl 48 _ _ rfl ji52 rfl rfl Tryd.underlying48 (.int .u8 0) 1 info5 rfl (by decide) (by omega) 0 (ok := fun _ => True) (okp := fun _ => True) rfl (fun _ hk => hk) trivial (of_decide_eq_true (by first | (with_reducible assumption) | assumption)) (Nat.le_trans (Nat.mul_le_mul_right _ (of_decide_eq_true (by first | (with_reducible assumption) | assumption) : ji52.toNat ≤ 281474976710656)) (by omega)) (Below.refl _ _) (Nat.le_refl _) ?_; intro v225 w60 ho61 hb hg_ hnew_; clear hg_ hnew_; (first | rw [← Ny224.out] at ho61 | (simp only [Int.reduceToNat] at ho61; rw [← Ny224.out] at ho61)); have n0_ := Aside0.mk (Kd.R_lower ho61 (below_size (by repeat (first | (with_reducible first | exact HB.out | apply below_alloc | apply pw_below_drewN | apply below_drew1 | refine below_set ?_ GE215.out | refine below_set ?_ GE216.out | refine below_set ?_ GE217.out) | exact HB.out)))); have n1_ := Aside0.mk (blk_below (g := gb215) (o := .cells #[.string x216000_31, .int .i64 x216001_31] 28 (0, 0)) (by (with_reducible repeat (first | refine blk_drewN ?_ _ | refine blk_drew ?_ | refine blk_alloc ?_ _)); exact BK215.out) hb); have n2_ := Aside0.mk (blk_below (g := gb216) (o := .cells #[.string x217000_31, .int .i64 x217001_31] 28 (0, 0)) (by (with_reducible repeat (first | refine blk_drewN ?_ _ | refine blk_drew ?_ | refine blk_alloc ?_ _)); exact BK216.out) hb); have n3_ := Aside0.mk (blk_below (g := gb217) (o := .cells #[.string (⟨#[]⟩ : ByteArray), .int .i64 0] 28 (0, 0)) (by (with_reducible repeat (first | refine blk_drewN ?_ _ | refine blk_drew ?_ | refine blk_alloc ?_ _)); exact BK217.out) hb); have n4_ := Aside0.mk (below_step (by repeat (first | (with_reducible first | exact HB.out | apply below_alloc | apply pw_below_drewN | apply below_drew1 | refine below_set ?_ GE215.out | refine below_set ?_ GE216.out | refine below_set ?_ GE217.out) | exact HB.out)) hb); clear BK215; clear BK216; clear BK217; clear HB; have HO226 := n0_; have BK215 := n1_; have BK216 := n2_; have BK217 := n3_; have HB := n4_; clear n0_ n1_ n2_ n3_ n4_; clear hb ho61; obtain ⟨Ao62, co62, eo62⟩ := Kd.R_slice HO226.out; subst eo62))
        go_loopg [64] kj31 (fun kq v64 w' => ∃ (x61_2 : List Int) (x64_2 : Int), v64 = .int .i64 x64_2 ∧ Aside0 (bigdec_Add.l0 kq x61_2 (y224.length : Int) x64_2 x216000_31 x216001_31 x217000_31 x217001_31 = some (r1, r2, r3)) ∧ Aside0 (kq ≤ kj31) ∧ Aside0 (Kd.R (Kd.int .u8) 5 w' w.heap.size (fun _ => True) (.slice Ao62 y224.length co62) x61_2) ∧ Aside0 (w'.heap[gb215]? = some (.cells #[.string x216000_31, .int .i64 x216001_31] 28 (0, 0))) ∧ Aside0 (w'.heap[gb216]? = some (.cells #[.string x217000_31, .int .i64 x217001_31] 28 (0, 0))) ∧ Aside0 (w'.heap[gb217]? = some (.cells #[.string (⟨#[]⟩ : ByteArray), .int .i64 0] 28 (0, 0))) ∧ Aside0 (Below w.heap.size w w'))
        case atStart => exact ⟨(y224), (0), (by first | rfl | (simp; done) | (simp [*]; done)), H', ⟨Nat.le_refl _⟩, ⟨by (with_reducible repeat (first | apply Kd.R_alloc | apply Kd.R_drewN | apply Kd.R_drew)); exact HO226.out⟩, ⟨by (with_reducible repeat (first | refine blk_drewN ?_ _ | refine blk_drew ?_ | refine blk_alloc ?_ _)); exact BK215.out⟩, ⟨by (with_reducible repeat (first | refine blk_drewN ?_ _ | refine blk_drew ?_ | refine blk_alloc ?_ _)); exact BK216.out⟩, ⟨by (with_reducible repeat (first | refine blk_drewN ?_ _ | refine blk_drew ?_ | refine blk_alloc ?_ _)); exact BK217.out⟩, ⟨by repeat (first | (with_reducible first | exact HB.out | apply below_alloc | apply pw_below_drewN | apply below_drew1 | refine below_set ?_ GE215.out | refine below_set ?_ GE216.out | refine below_set ?_ GE217.out) | exact HB.out)⟩⟩
        case round =>
         clear H'
         try clear c4
         try clear c4b0
         try clear c4b1
         try clear c5
         try clear c5b0
         try clear c5b1
         try clear c18
         try clear c18b0
         try clear c18b1
         try clear c45
         try clear c45b0
         try clear c53
         try clear c53b0
         try clear c53b1
         try clear c54
         try clear c54b0
         try clear c54b1
         try clear hcz11_0
         try clear hcz11_1
         try clear hcz13_0
         try clear hcz13_1
         try clear hcz15_0
         try clear hcz15_1
         try clear hcz16_0
         try clear hcz16_1
         try clear hcz17_0
         try clear hcz17_1
         try clear hcz24_0
         try clear hcz24_1
         try clear hcz26_0
         try clear hcz26_1
         try clear hcz28_0
         try clear hcz28_1
         try clear hcz29_0
         try clear hcz29_1
         try clear hcz30_0
         try clear hcz30_1
         try clear hcz38_0
         try clear hcz38_1
         try clear hcz40_0
         try clear hcz40_1
         try clear hcz42_0
         try clear hcz42_1
         try clear hcz43_0
         try clear hcz43_1
         try clear hcz48_0
         try clear hcz48_1
         try clear hcz50_0
         try clear hcz50_1
         try clear hcz57_0
         try clear hcz57_1
         try clear hcz59_0
         try clear hcz59_1
         try clear hfz11_0
         try clear hfz11_1
         try clear hfz13_0
         try clear hfz13_1
         try clear hfz15_0
         try clear hfz15_1
         try clear hfz16_0
         try clear hfz16_1
         try clear hfz17_0
         try clear hfz17_1
         try clear hfz24_0
         try clear hfz24_1
         try clear hfz26_0
         try clear hfz26_1
         try clear hfz28_0
         try clear hfz28_1
         try clear hfz29_0
         try clear hfz29_1
         try clear hfz30_0
         try clear hfz30_1
         try clear hfz38_0
         try clear hfz38_1
         try clear hfz40_0
         try clear hfz40_1
         try clear hfz42_0
         try clear hfz42_1
         try clear hfz43_0
         try clear hfz43_1
         try clear hfz48_0
         try clear hfz48_1
         try clear hfz50_0
         try clear hfz50_1
         try clear hfz57_0
         try clear hfz57_1
         try clear hfz59_0
         try clear hfz59_1
         obtain ⟨x61_2, x64_2, rfl, HA, HK2, HO_61, BK215, BK216, BK217, HB⟩ := hrel
         have hl61_2 := (Kd.R_reads' HO_61.out).1
         rw [hl61_2] at HO_61
         (try simp only [hl61_2])
         (try simp only [hl61_2] at BK215)
         (try simp only [hl61_2] at BK216)
         (try simp only [hl61_2] at BK217)
         cases gk with
         | zero => exact absurd HA.out (by simp [bigdec_Add.l0])
         | succ k2 =>
          have H := HA.out
          clear HA
          simp only [bigdec_Add.l0] at H
          by_cases c63 : x64_2 < (y224.length : Int)
          ·rw [if_pos c63] at H
           have c63b0 : decide (x64_2 < (y224.length : Int)) = true := decide_eq_true c63
           (try (have c63b9 := c63b0; (first | rw [hl61_2] at c63b9); skip))
           clear c63
           by_cases c64 : 0 ≤ x64_2
           ·rw [if_pos c64] at H
            have c64b0 : decide (0 ≤ x64_2) = true := decide_eq_true c64
            clear c64
            by_cases c65 : x64_2 < (x61_2.length : Int)
            ·rw [if_pos c65] at H
             have c65b0 : decide (x64_2 < (x61_2.length : Int)) = true := decide_eq_true c65
             (try (have c65b9 := c65b0; (first | rw [hl61_2] at c65b9); skip))
             clear c65
             obtain ⟨y227, hy227⟩ : ∃ y_ : List Int, y_ = (x61_2.set (x64_2 : Int).toNat 48) := ⟨_, rfl⟩
             replace H : (bigdec_Add.l0 k2 y227 (y224.length : Int) (wrap64 (x64_2 + 1)) x216000_31 x216001_31 x217000_31 x217001_31) = some (r1, r2, r3) := by first | (rw [hy227]; with_reducible exact H) | (have H2_ := (Option.bind_some _ _).symm.trans H; rw [hy227]; with_reducible exact H2_) | (have H2_ := (Option.bind_some _ _).symm.trans H; with_reducible exact H2_) | with_reducible exact H | (rw [hy227]; exact H) | exact H
             have Ny227 := Aside0.mk hy227
             clear hy227
             have H' := Aside0.mk H
             clear H
             have p66 : 0 ≤ (x64_2 : Int) := of_decide_eq_true (by first | (with_reducible assumption) | assumption)
             have q66 : (x64_2 : Int) < ((x61_2.length : Int) : Int) := of_decide_eq_true (by first | (with_reducible assumption) | assumption)
             obtain ⟨go66, co66, eo66, gb66, gl66, cl66, HG66⟩ := Kd.R_form HO_61.out (by omega)
             (first | cases eo66 | (injection eo66 with ea_ en_ ec_; (first | subst ea_ | (injection ea_ with ea_; subst ea_)); subst ec_; clear en_))
             have GB66 := Aside0.mk gb66
             have GG66 := Aside0.mk HG66
             clear gb66 gl66 HG66
             obtain ⟨hx66_0, hf66_0⟩ := Kd.R_celln 0 HO_61.out (x64_2 : Int) p66 q66
             replace p66 := eq_true p66
             replace q66 := eq_true q66
             have HP67 := Kd.R_putg HO_61.out (x64_2 : Int) 48
             go_wp2_with (first | ((with_reducible refine gate_store (t := 5) (p := 69) rfl ?_); (try (rw [drewN_self wr]; generalize hq_ : World.drewN wr _ = wr; have n0_ := Aside0.mk (Kd.R_at hq_ HO_61.out); have n1_ := Aside0.mk (blk_at hq_ BK215.out); have n2_ := Aside0.mk (blk_at hq_ BK216.out); have n3_ := Aside0.mk (blk_at hq_ BK217.out); have n4_ := Aside0.mk (below_at hq_ HB.out); clear hq_ HO_61 BK215 BK216 BK217 HB; have HO_61 := n0_; have BK215 := n1_; have BK216 := n2_; have BK217 := n3_; have HB := n4_; clear n0_ n1_ n2_ n3_ n4_; (try (have HP67 := Kd.R_putg HO_61.out (x64_2 : Int) 48)))); refine store_event (t := 5) (p := 69) (v := ?vo_w68) (w1 := (wr.setCell ⟨go66, (x64_2 : Int).toNat, none⟩ (.int .u8 48))) ?hg ?ho ?hn ?hr ?_; (case ho => rfl); (case hg => rfl); (case hn => rfl); (case hr => first | (go_simp; done) | (go_simp; rfl)); intro w68 hw; have hg : wr.grownBy w68 (some go66) := (by rw [hw]; exact HP67.2); have hp_ : Kd.R (Kd.int .u8) 5 w68 w.heap.size (fun _ => True) (.slice (some ⟨go66, 0, none⟩) x61_2.length co62) y227 := (by rw [hw, Ny227.out]; exact HP67.1); clear HP67; have n0_ := Aside0.mk (hp_); have n1_ := Aside0.mk (blk_grown (g := gb215) (o := .cells #[.string x216000_31, .int .i64 x216001_31] 28 (0, 0)) (by (with_reducible repeat (first | refine blk_drewN ?_ _ | refine blk_drew ?_ | refine blk_alloc ?_ _)); exact BK215.out) hg (Kd.R_ne HO_61.out BK215.out (by decide))); have n2_ := Aside0.mk (blk_grown (g := gb216) (o := .cells #[.string x217000_31, .int .i64 x217001_31] 28 (0, 0)) (by (with_reducible repeat (first | refine blk_drewN ?_ _ | refine blk_drew ?_ | refine blk_alloc ?_ _)); exact BK216.out) hg (Kd.R_ne HO_61.out BK216.out (by decide))); have n3_ := Aside0.mk (blk_grown (g := gb217) (o := .cells #[.string (⟨#[]⟩ : ByteArray), .int .i64 0] 28 (0, 0)) (by (with_reducible repeat (first | refine blk_drewN ?_ _ | refine blk_drew ?_ | refine blk_alloc ?_ _)); exact BK217.out) hg (Kd.R_ne HO_61.out BK217.out (by decide))); have n4_ := Aside0.mk ((by rw [hw]; exact below_set (HB.out) GB66.out : Below w.heap.size w w68)); clear HO_61; clear BK215; clear BK216; clear BK217; clear HB; have HO_61 := n0_; have BK215 := n1_; have BK216 := n2_; have BK217 := n3_; have HB := n4_; clear n0_ n1_ n2_ n3_ n4_; clear hg hw hp_))
             (try simp only [← hl61_2])
             go_roundg k2
             case measure => have := HJ31.out; have := HK2.out; omega
             case rel => exact ⟨(y227), (wrap64 (x64_2 + 1)), (by first | rfl | (simp; done) | (simp [*]; done)), H', ⟨by have := HJ31.out; have := HK2.out; omega⟩, ⟨by (try simp only [hl61_2]); (with_reducible repeat (first | apply Kd.R_alloc | apply Kd.R_drewN | apply Kd.R_drew)); exact HO_61.out⟩, ⟨by (try simp only [hl61_2]); (with_reducible repeat (first | refine blk_drewN ?_ _ | refine blk_drew ?_ | refine blk_alloc ?_ _)); exact BK215.out⟩, ⟨by (try simp only [hl61_2]); (with_reducible repeat (first | refine blk_drewN ?_ _ | refine blk_drew ?_ | refine blk_alloc ?_ _)); exact BK216.out⟩, ⟨by (try simp only [hl61_2]); (with_reducible repeat (first | refine blk_drewN ?_ _ | refine blk_drew ?_ | refine blk_alloc ?_ _)); exact BK217.out⟩, ⟨by repeat (first | (with_reducible first | exact HB.out | apply below_alloc | apply pw_below_drewN | apply below_drew1 | refine below_set ?_ GE215.out | refine below_set ?_ GE216.out | refine below_set ?_ GE217.out) | exact HB.out)⟩⟩
            ·rw [if_neg c65] at H
             exact absurd H (by simp)
           ·rw [if_neg c64] at H
            exact absurd H (by simp)
          ·rw [if_neg c63] at H
           have c63b0 : decide (x64_2 < (y224.length : Int)) = false := decide_eq_false c63
           (try (have c63b9 := c63b0; (first | rw [hl61_2] at c63b9); skip))
           clear c63
           have HC69 := Aside0.mk H
           clear H
           go_upto_region 17 with (fail)
           go_cut [] (fun wc => ∃ (kq : Nat) (x8_68 : List Int), Aside0 (bigdec_Add.j2 kq x8_68 x216000_31 x216001_31 x217000_31 x217001_31 = some (r1, r2, r3)) ∧ Aside0 (kq ≤ k2) ∧ Aside0 (Kd.R (Kd.int .u8) 5 wc w.heap.size (fun _ => True) (.slice Ao62 x61_2.length co62) x8_68) ∧ Aside0 (wc.heap[gb215]? = some (.cells #[.string x216000_31, .int .i64 x216001_31] 28 (0, 0))) ∧ Aside0 (wc.heap[gb216]? = some (.cells #[.string x217000_31, .int .i64 x217001_31] 28 (0, 0))) ∧ Aside0 (wc.heap[gb217]? = some (.cells #[.string (⟨#[]⟩ : ByteArray), .int .i64 0] 28 (0, 0))) ∧ Aside0 (Below w.heap.size w wc))
           case first =>
            have H := HC69.out
            clear HC69
            by_cases c70 : 1 ≤ (x61_2.length : Int)
            ·rw [if_pos c70] at H
             have c70b0 := eq_true c70
             have c70b1 : decide (1 ≤ (x61_2.length : Int)) = true := decide_eq_true c70
             clear c70
             obtain ⟨y228, hy228⟩ : ∃ y_ : List Int, y_ = (x61_2.drop 1) := ⟨_, rfl⟩
             replace H : (if 2 ≤ (x61_2.length : Int) then (if x216000_31.size + 1 ≤ x61_2.length then (bigdec_Add.j2 k2 (cpyAt x61_2 1 x216000_31) x216000_31 x216001_31 x217000_31 x217001_31) else (none)) else (none)) = some (r1, r2, r3) := by first | (rw [hy228]; with_reducible exact H) | (have H2_ := (Option.bind_some _ _).symm.trans H; rw [hy228]; with_reducible exact H2_) | (have H2_ := (Option.bind_some _ _).symm.trans H; with_reducible exact H2_) | with_reducible exact H | (rw [hy228]; exact H) | exact H
             have Ny228 := Aside0.mk hy228
             clear hy228
             by_cases c71 : 2 ≤ (x61_2.length : Int)
             ·rw [if_pos c71] at H
              have c71b0 := eq_true c71
              have c71b1 : decide (2 ≤ (x61_2.length : Int)) = true := decide_eq_true c71
              clear c71
              by_cases c72 : x216000_31.size + 1 ≤ x61_2.length
              ·rw [if_pos c72] at H
               have c72b0 := eq_true c72
               have c72b1 : decide (x216000_31.size + 1 ≤ x61_2.length) = true := decide_eq_true c72
               obtain ⟨y232, hy232⟩ : ∃ y_ : List Int, y_ = (cpyAt x61_2 1 x216000_31) := ⟨_, rfl⟩
               replace H : (bigdec_Add.j2 k2 y232 x216000_31 x216001_31 x217000_31 x217001_31) = some (r1, r2, r3) := by first | (rw [hy232]; with_reducible exact H) | (have H2_ := (Option.bind_some _ _).symm.trans H; rw [hy232]; with_reducible exact H2_) | (have H2_ := (Option.bind_some _ _).symm.trans H; with_reducible exact H2_) | with_reducible exact H | (rw [hy232]; exact H) | exact H
               have Ny232 := Aside0.mk hy232
               clear hy232
               have H' := Aside0.mk H
               clear H
               have q74 : (1 : Int) ≤ ((x61_2.length : Int) : Int) := of_decide_eq_true (by first | (with_reducible assumption) | assumption)
               obtain ⟨i074, hi074, _, hsz74, _⟩ := info_parts info5
               have hroom74 : x61_2.length ≤ co62 := (Kd.R_reads' HO_61.out).2.1
               have hC74 : Kd.C (Kd.int .u8) _ Ao62 x61_2.length x61_2 := (Kd.R_reads' HO_61.out).2.2
               have hcut74 := cut_from (P := Tryd.prog) 48 5 .i64 Tryd.underlying48 hi074 1 hsz74 Ao62 x61_2.length co62 1 (by omega) q74
               have hr74 := Kd.C_drop (m := (1 : Int).toNat) (c := co62) hC74 (by omega) hroom74
               obtain ⟨A74, hA74⟩ : ∃ A1, A1 = (if co62 = (1 : Int).toNat then Ao62 else (Ao62 : Option Addr).map (·.add ((1 : Int).toNat * 1))) := ⟨_, rfl⟩
               obtain ⟨c74, hc74⟩ : ∃ c1, c1 = co62 - (1 : Int).toNat := ⟨_, rfl⟩
               have hy74 : y228.length = x61_2.length - (1 : Int).toNat := (by rw [Ny228.out, List.length_drop] <;> omega)
               rw [show (x61_2).drop (1 : Int).toNat = y228 from Ny228.out.symm] at hr74
               replace hr74 : Kd.C (Kd.int .u8) _ A74 y228.length y228 := (by rw [hA74]; exact hr74)
               rw [← hy74, ← hA74, ← hc74] at hcut74
               have HR231 := Aside0.mk hr74
               have HC231 := Aside0.mk (show y228.length ≤ c74 from by rw [hy74, hc74]; exact Nat.sub_le_sub_right hroom74 _)
               clear hr74 hC74 hroom74 hi074 hsz74 hc74
               have KY74 := Aside0.mk hy74
               have KA74 := Aside0.mk hA74
               clear hy74 hA74
               have KL74 := Aside0.mk (show 1 ≤ x61_2.length from by omega)
               replace q74 := eq_true q74
               have hnb75 := NB215_216.out
               have hnc75 := NB216_215.out
               have hnb76 := NB215_217.out
               have hnc76 := NB217_215.out
               have hcz77_0 : wr.cell? ⟨gb215, 0, none⟩ = some (.string x216000_31) := (blk_cell BK215.out 0).trans rfl
               have hcz77_1 : wr.cell? ⟨gb215, 1, none⟩ = some (.int .i64 x216001_31) := (blk_cell BK215.out 1).trans rfl
               have hfz77_0 := blk_frozen BK215.out 0
               have hfz77_1 := blk_frozen BK215.out 1
               have p73 : 0 ≤ (0 : Int) := (by omega)
               have q73 : (0 : Int) < ((x61_2.length : Int) : Int) := of_decide_eq_true (by first | (with_reducible assumption) | assumption)
               have qi73 : (0 < x61_2.length) = True := eq_true (by omega)
               obtain ⟨go73, co73, eo73, gb73, gl73, cl73, HG73⟩ := Kd.R_form HO_61.out (by omega)
               (first | cases eo73 | (injection eo73 with ea_ en_ ec_; (first | subst ea_ | (injection ea_ with ea_; subst ea_)); subst ec_; clear en_))
               have GB73 := Aside0.mk gb73
               have GG73 := Aside0.mk HG73
               clear gb73 gl73 HG73
               obtain ⟨hx73_0, hf73_0⟩ := Kd.R_celln 0 HO_61.out (0 : Int) p73 q73
               (try rw [show ((0 : Int)).toNat = 0 from rfl] at hx73_0)
               (try simp only [Nat.reduceMul, Nat.zero_mul, Nat.zero_add, Nat.reduceAdd] at hx73_0)
               (try rw [show ((0 : Int)).toNat = 0 from rfl] at hf73_0)
               (try simp only [Nat.reduceMul, Nat.zero_mul, Nat.zero_add, Nat.reduceAdd] at hf73_0)
               replace p73 := eq_true p73
               replace q73 := eq_true q73
               have HP78 := Kd.R_putg HO_61.out (0 : Int) 0
               have h2_ : 2 ≤ x61_2.length := by have h_ : (2 : Int) ≤ (x61_2.length : Int) := of_decide_eq_true (by assumption); omega
               have hfit_ : x216000_31.size + 1 ≤ x61_2.length := of_decide_eq_true (by assumption)
               have hA1_ : A74 = some ⟨go73, 1, none⟩ := by
                have h_ := KA74.out
                have hc_ := (Kd.R_reads' HO_61.out).2.1
                rw [if_neg (by simp; omega)] at h_
                rw [h_]; rfl
               have hyl_ := KY74.out
               have HA1_ := Aside0.mk hA1_
               clear hA1_
               have Hfit_ := Aside0.mk hfit_
               have Hyl_ := Aside0.mk hyl_
               clear hyl_ hfit_
               go_region_law ((try (rw [drewN_self wr]; generalize hq_ : World.drewN wr _ = wr; have n0_ := Aside0.mk (Kd.R_at hq_ HO_61.out); have n1_ := Aside0.mk (blk_at hq_ BK215.out); have n2_ := Aside0.mk (blk_at hq_ BK216.out); have n3_ := Aside0.mk (blk_at hq_ BK217.out); have n4_ := Aside0.mk (below_at hq_ HB.out); clear hq_ HO_61 BK215 BK216 BK217 HB; have HO_61 := n0_; have BK215 := n1_; have BK216 := n2_; have BK217 := n3_; have HB := n4_; clear n0_ n1_ n2_ n3_ n4_)); refine step_copyAt (w0 := w) rfl _ _ _ _ rfl 5 Tryd.underlying48 (by kernel_rfl) (g := go73) rfl HA1_.out x216000_31 rfl (by have h1_ := Hyl_.out; have h2_ := Hfit_.out; rw [h1_]; simp; omega) Hfit_.out HO_61.out (by repeat (first | (with_reducible first | exact HB.out | apply below_alloc | apply pw_below_drewN | apply below_drew1) | exact HB.out)) ?_; intro w79 ho_ hg hb_; have hp_ : Kd.R (Kd.int .u8) 5 w79 w.heap.size (fun _ => True) (.slice (some ⟨go73, 0, none⟩) x61_2.length co62) y232 := (by rw [Ny232.out]; exact ho_); clear ho_; have n0_ := Aside0.mk (hp_); have n1_ := Aside0.mk (blk_grown (g := gb215) (o := .cells #[.string x216000_31, .int .i64 x216001_31] 28 (0, 0)) (by (with_reducible repeat (first | refine blk_drewN ?_ _ | refine blk_drew ?_ | refine blk_alloc ?_ _)); exact BK215.out) hg (Kd.R_ne HO_61.out BK215.out (by decide))); have n2_ := Aside0.mk (blk_grown (g := gb216) (o := .cells #[.string x217000_31, .int .i64 x217001_31] 28 (0, 0)) (by (with_reducible repeat (first | refine blk_drewN ?_ _ | refine blk_drew ?_ | refine blk_alloc ?_ _)); exact BK216.out) hg (Kd.R_ne HO_61.out BK216.out (by decide))); have n3_ := Aside0.mk (blk_grown (g := gb217) (o := .cells #[.string (⟨#[]⟩ : ByteArray), .int .i64 0] 28 (0, 0)) (by (with_reducible repeat (first | refine blk_drewN ?_ _ | refine blk_drew ?_ | refine blk_alloc ?_ _)); exact BK217.out) hg (Kd.R_ne HO_61.out BK217.out (by decide))); have n4_ := Aside0.mk ((hb_ : Below w.heap.size w w79)); clear HO_61; clear BK215; clear BK216; clear BK217; clear HB; have HO_61 := n0_; have BK215 := n1_; have BK216 := n2_; have BK217 := n3_; have HB := n4_; clear n0_ n1_ n2_ n3_ n4_; clear hg hb_ hp_)
               all_goals (try go_wp2)
               go_meet
               case rel => exact ⟨_, (y232), H', ⟨by have := HJ31.out; have := HK2.out; first | omega | exact Nat.le_refl _⟩, ⟨by (try simp only [hl61_2]); (with_reducible repeat (first | apply Kd.R_alloc | apply Kd.R_drewN | apply Kd.R_drew)); exact HO_61.out⟩, ⟨by (try simp only [hl61_2]); (with_reducible repeat (first | refine blk_drewN ?_ _ | refine blk_drew ?_ | refine blk_alloc ?_ _)); exact BK215.out⟩, ⟨by (try simp only [hl61_2]); (with_reducible repeat (first | refine blk_drewN ?_ _ | refine blk_drew ?_ | refine blk_alloc ?_ _)); exact BK216.out⟩, ⟨by (try simp only [hl61_2]); (with_reducible repeat (first | refine blk_drewN ?_ _ | refine blk_drew ?_ | refine blk_alloc ?_ _)); exact BK217.out⟩, ⟨by repeat (first | (with_reducible first | exact HB.out | apply below_alloc | apply pw_below_drewN | apply below_drew1 | refine below_set ?_ GE215.out | refine below_set ?_ GE216.out | refine below_set ?_ GE217.out) | exact HB.out)⟩⟩
              ·rw [if_neg c72] at H
               exact absurd H (by simp)
             ·rw [if_neg c71] at H
              exact absurd H (by simp)
            ·rw [if_neg c70] at H
             exact absurd H (by simp)
           case rest =>
            clear HC69
            try clear c1
            try clear c4
            try clear c4b0
            try clear c4b1
            try clear c5
            try clear c5b0
            try clear c5b1
            try clear c18
            try clear c18b0
            try clear c18b1
            try clear c45
            try clear c45b0
            try clear c53
            try clear c53b0
            try clear c53b1
            try clear c54
            try clear c54b0
            try clear c54b1
            try clear c63
            try clear c63b0
            try clear c64
            try clear c64b0
            try clear c65
            try clear c65b0
            try clear p66
            try clear q66
            try clear c70
            try clear c70b0
            try clear c70b1
            try clear c71
            try clear c71b0
            try clear c71b1
            try clear c72
            try clear c72b0
            try clear c72b1
            try clear p73
            try clear q73
            try clear qi73
            try clear c74
            try clear q74
            try clear hcz11_0
            try clear hcz11_1
            try clear hcz13_0
            try clear hcz13_1
            try clear hcz15_0
            try clear hcz15_1
            try clear hcz16_0
            try clear hcz16_1
            try clear hcz17_0
            try clear hcz17_1
            try clear hcz24_0
            try clear hcz24_1
            try clear hcz26_0
            try clear hcz26_1
            try clear hcz28_0
            try clear hcz28_1
            try clear hcz29_0
            try clear hcz29_1
            try clear hcz30_0
            try clear hcz30_1
            try clear hcz38_0
            try clear hcz38_1
            try clear hcz40_0
            try clear hcz40_1
            try clear hcz42_0
            try clear hcz42_1
            try clear hcz43_0
            try clear hcz43_1
            try clear hcz48_0
            try clear hcz48_1
            try clear hcz50_0
            try clear hcz50_1
            try clear hcz57_0
            try clear hcz57_1
            try clear hcz59_0
            try clear hcz59_1
            try clear hcz77_0
            try clear hcz77_1
            try clear hfz11_0
            try clear hfz11_1
            try clear hfz13_0
            try clear hfz13_1
            try clear hfz15_0
            try clear hfz15_1
            try clear hfz16_0
            try clear hfz16_1
            try clear hfz17_0
            try clear hfz17_1
            try clear hfz24_0
            try clear hfz24_1
            try clear hfz26_0
            try clear hfz26_1
            try clear hfz28_0
            try clear hfz28_1
            try clear hfz29_0
            try clear hfz29_1
            try clear hfz30_0
            try clear hfz30_1
            try clear hfz38_0
            try clear hfz38_1
            try clear hfz40_0
            try clear hfz40_1
            try clear hfz42_0
            try clear hfz42_1
            try clear hfz43_0
            try clear hfz43_1
            try clear hfz48_0
            try clear hfz48_1
            try clear hfz50_0
            try clear hfz50_1
            try clear hfz57_0
            try clear hfz57_1
            try clear hfz59_0
            try clear hfz59_1
            try clear hfz77_0
            try clear hfz77_1
            try clear hx66_0
            try clear hx73_0
            try clear p66
            try clear p73
            try clear q66
            try clear q73
            try clear q74
            obtain ⟨kq, x8_68, HA, HJ68, HO_8, BK215, BK216, BK217, HB⟩ := hcut
            have hl8_68 := (Kd.R_reads' HO_8.out).1
            rw [hl8_68] at HO_8
            (try simp only [hl8_68])
            (try simp only [hl8_68] at BK215)
            (try simp only [hl8_68] at BK216)
            (try simp only [hl8_68] at BK217)
            cases kq with
            | zero => exact absurd HA.out (by simp [bigdec_Add.j2])
            | succ kj68 =>
             have H := HA.out
             clear HA
             simp only [bigdec_Add.j2] at H
             have H' := Aside0.mk H
             clear H
             go_wp2
             go_loopg [10, 11] kj68 (fun kq v10 v11 w' => ∃ (x8_4 : List Int) (x10_4 : Int) (x11_4 : Int), v10 = .int .u8 x10_4 ∧ v11 = .int .i64 x11_4 ∧ Aside0 (bigdec_Add.l1 kq x8_4 x10_4 x11_4 x216000_31 x216001_31 x217000_31 x217001_31 = some (r1, r2, r3)) ∧ Aside0 (kq ≤ kj68) ∧ Aside0 (Kd.R (Kd.int .u8) 5 w' w.heap.size (fun _ => True) (.slice Ao62 x8_68.length co62) x8_4) ∧ Aside0 (w'.heap[gb215]? = some (.cells #[.string x216000_31, .int .i64 x216001_31] 28 (0, 0))) ∧ Aside0 (w'.heap[gb216]? = some (.cells #[.string x217000_31, .int .i64 x217001_31] 28 (0, 0))) ∧ Aside0 (w'.heap[gb217]? = some (.cells #[.string (⟨#[]⟩ : ByteArray), .int .i64 0] 28 (0, 0))) ∧ Aside0 (Below w.heap.size w w'))
             case atStart => exact ⟨(x8_68), (0), (wrap64 ((x8_68.length : Int) - 1)), (by first | rfl | (simp; done) | (simp [*]; done)), (by first | rfl | (simp; done) | (simp [*]; done)), H', ⟨Nat.le_refl _⟩, ⟨by (try simp only [hl61_2]); (try simp only [hl8_68]); (with_reducible repeat (first | apply Kd.R_alloc | apply Kd.R_drewN | apply Kd.R_drew)); exact HO_8.out⟩, ⟨by (try simp only [hl61_2]); (try simp only [hl8_68]); (with_reducible repeat (first | refine blk_drewN ?_ _ | refine blk_drew ?_ | refine blk_alloc ?_ _)); exact BK215.out⟩, ⟨by (try simp only [hl61_2]); (try simp only [hl8_68]); (with_reducible repeat (first | refine blk_drewN ?_ _ | refine blk_drew ?_ | refine blk_alloc ?_ _)); exact BK216.out⟩, ⟨by (try simp only [hl61_2]); (try simp only [hl8_68]); (with_reducible repeat (first | refine blk_drewN ?_ _ | refine blk_drew ?_ | refine blk_alloc ?_ _)); exact BK217.out⟩, ⟨by repeat (first | (with_reducible first | exact HB.out | apply below_alloc | apply pw_below_drewN | apply below_drew1 | refine below_set ?_ GE215.out | refine below_set ?_ GE216.out | refine below_set ?_ GE217.out) | exact HB.out)⟩⟩
             case round =>
              clear H'
              try clear c1
              try clear c4
              try clear c4b0
              try clear c4b1
              try clear c5
              try clear c5b0
              try clear c5b1
              try clear c18
              try clear c18b0
              try clear c18b1
              try clear c45
              try clear c45b0
              try clear c53
              try clear c53b0
              try clear c53b1
              try clear c54
              try clear c54b0
              try clear c54b1
              try clear c63
              try clear c63b0
              try clear c64
              try clear c64b0
              try clear c65
              try clear c65b0
              try clear p66
              try clear q66
              try clear c70
              try clear c70b0
              try clear c70b1
              try clear c71
              try clear c71b0
              try clear c71b1
              try clear c72
              try clear c72b0
              try clear c72b1
              try clear p73
              try clear q73
              try clear qi73
              try clear c74
              try clear q74
              try clear hcz11_0
              try clear hcz11_1
              try clear hcz13_0
              try clear hcz13_1
              try clear hcz15_0
              try clear hcz15_1
              try clear hcz16_0
              try clear hcz16_1
              try clear hcz17_0
              try clear hcz17_1
              try clear hcz24_0
              try clear hcz24_1
              try clear hcz26_0
              try clear hcz26_1
              try clear hcz28_0
              try clear hcz28_1
              try clear hcz29_0
              try clear hcz29_1
              try clear hcz30_0
              try clear hcz30_1
              try clear hcz38_0
              try clear hcz38_1
              try clear hcz40_0
              try clear hcz40_1
              try clear hcz42_0
              try clear hcz42_1
              try clear hcz43_0
              try clear hcz43_1
              try clear hcz48_0
              try clear hcz48_1
              try clear hcz50_0
              try clear hcz50_1
              try clear hcz57_0
              try clear hcz57_1
              try clear hcz59_0
              try clear hcz59_1
              try clear hcz77_0
              try clear hcz77_1
              try clear hfz11_0
              try clear hfz11_1
              try clear hfz13_0
              try clear hfz13_1
              try clear hfz15_0
              try clear hfz15_1
              try clear hfz16_0
              try clear hfz16_1
              try clear hfz17_0
              try clear hfz17_1
              try clear hfz24_0
              try clear hfz24_1
              try clear hfz26_0
              try clear hfz26_1
              try clear hfz28_0
              try clear hfz28_1
              try clear hfz29_0
              try clear hfz29_1
              try clear hfz30_0
              try clear hfz30_1
              try clear hfz38_0
              try clear hfz38_1
              try clear hfz40_0
              try clear hfz40_1
              try clear hfz42_0
              try clear hfz42_1
              try clear hfz43_0
              try clear hfz43_1
              try clear hfz48_0
              try clear hfz48_1
              try clear hfz50_0
              try clear hfz50_1
              try clear hfz57_0
              try clear hfz57_1
              try clear hfz59_0
              try clear hfz59_1
              try clear hfz77_0
              try clear hfz77_1
              try clear hx66_0
              try clear hx73_0
              try clear p66
              try clear p73
              try clear q66
              try clear q73
              try clear q74
              obtain ⟨x8_4, x10_4, x11_4, rfl, rfl, HA, HK4, HO_8, BK215, BK216, BK217, HB⟩ := hrel
              have hl8_4 := (Kd.R_reads' HO_8.out).1
              rw [hl8_4] at HO_8
              (try simp only [hl8_4])
              (try simp only [hl8_4] at BK215)
              (try simp only [hl8_4] at BK216)
              (try simp only [hl8_4] at BK217)
              cases gk with
              | zero => exact absurd HA.out (by simp [bigdec_Add.l1])
              | succ k4 =>
               have H := HA.out
               clear HA
               simp only [bigdec_Add.l1] at H
               by_cases c80 : x11_4 ≥ 0
               ·rw [if_pos c80] at H
                have c80b0 : decide (0 ≤ x11_4) = true := decide_eq_true c80
                clear c80
                by_cases c81 : 0 ≤ x11_4
                ·rw [if_pos c81] at H
                 have c81b0 : decide (0 ≤ x11_4) = true := decide_eq_true c81
                 clear c81
                 by_cases c82 : x11_4 < (x8_4.length : Int)
                 ·rw [if_pos c82] at H
                  have c82b0 : decide (x11_4 < (x8_4.length : Int)) = true := decide_eq_true c82
                  (try (have c82b9 := c82b0; (first | rw [hl8_4] at c82b9 | rw [hl8_68] at c82b9 | rw [hl61_2] at c82b9); skip))
                  clear c82
                  by_cases c83 : (wrap64 ((wrap64 (x11_4 - 1)) - (wrap64 (x216001_31 - x217001_31)))) ≥ 0
                  ·rw [if_pos c83] at H
                   have c83b0 : decide (0 ≤ (wrap64 ((wrap64 (x11_4 - 1)) - (wrap64 (x216001_31 - x217001_31))))) = true := decide_eq_true c83
                   clear c83
                   by_cases c84 : (wrap64 ((wrap64 (x11_4 - 1)) - (wrap64 (x216001_31 - x217001_31)))) < (x217000_31.size : Int)
                   ·rw [if_pos c84] at H
                    have c84b0 : decide ((wrap64 ((wrap64 (x11_4 - 1)) - (wrap64 (x216001_31 - x217001_31)))) < (x217000_31.size : Int)) = true := decide_eq_true c84
                    clear c84
                    obtain ⟨ji85, hji85⟩ : ∃ j_ : Int, (wrap64 ((wrap64 (x11_4 - 1)) - (wrap64 (x216001_31 - x217001_31)))) = j_ := ⟨_, rfl⟩
                    replace H : (if 0 ≤ (ji85) then (bigdec_Add.l1 k4 (x8_4.set (x11_4 : Int).toNat (48 + ((((((((rd x8_4 x11_4) - 48) % 256) + x10_4) % 256) + (((bt x217000_31 (ji85)) - 48) % 256)) % 256) % 10))) ((((((((rd x8_4 x11_4) - 48) % 256) + x10_4) % 256) + (((bt x217000_31 (ji85)) - 48) % 256)) % 256) / 10) (wrap64 (x11_4 - 1)) x216000_31 x216001_31 x217000_31 x217001_31) else (none)) = some (r1, r2, r3) := by first | (rw [hji85] at H; exact H) | (simp only [hji85] at H ⊢; exact H)
                    (try rw [hji85] at c83b0)
                    (try rw [hji85] at c84b0)
                    have hji85w : (IntKind.i64.wrap ((wrap64 (x11_4 - 1)) - (wrap64 (x216001_31 - x217001_31)))) = ji85 := (i64_w _).trans hji85
                    by_cases c86 : 0 ≤ (ji85)
                    ·rw [if_pos c86] at H
                     have c86b0 : decide (0 ≤ (ji85)) = true := decide_eq_true c86
                     clear c86
                     obtain ⟨y234, hy234⟩ : ∃ y_ : List Int, y_ = (x8_4.set (x11_4 : Int).toNat (48 + ((((((((rd x8_4 x11_4) - 48) % 256) + x10_4) % 256) + (((bt x217000_31 (ji85)) - 48) % 256)) % 256) % 10))) := ⟨_, rfl⟩
                     replace H : (bigdec_Add.l1 k4 y234 ((((((((rd x8_4 x11_4) - 48) % 256) + x10_4) % 256) + (((bt x217000_31 (ji85)) - 48) % 256)) % 256) / 10) (wrap64 (x11_4 - 1)) x216000_31 x216001_31 x217000_31 x217001_31) = some (r1, r2, r3) := by first | (rw [hy234]; with_reducible exact H) | (have H2_ := (Option.bind_some _ _).symm.trans H; rw [hy234]; with_reducible exact H2_) | (have H2_ := (Option.bind_some _ _).symm.trans H; with_reducible exact H2_) | with_reducible exact H | (rw [hy234]; exact H) | exact H
                     have Ny234 := Aside0.mk hy234
                     clear hy234
                     have H' := Aside0.mk H
                     clear H
                     have p233 : 0 ≤ (x11_4 : Int) := of_decide_eq_true (by first | (with_reducible assumption) | assumption)
                     have q233 : x11_4 < (x8_4.length : Int) := of_decide_eq_true (by first | (with_reducible assumption) | assumption)
                     obtain ⟨ad233, e233, hx233_0⟩ := Kd.at_int (Kd.R_reads' HO_8.out).2.2 x11_4 p233 q233
                     cases e233
                     replace p233 := eq_true p233
                     replace q233 := eq_true q233
                     have hnb89 := NB215_216.out
                     have hnc89 := NB216_215.out
                     have hnb90 := NB215_217.out
                     have hnc90 := NB217_215.out
                     have hcz91_0 : wr.cell? ⟨gb215, 0, none⟩ = some (.string x216000_31) := (blk_cell BK215.out 0).trans rfl
                     have hcz91_1 : wr.cell? ⟨gb215, 1, none⟩ = some (.int .i64 x216001_31) := (blk_cell BK215.out 1).trans rfl
                     have hfz91_0 := blk_frozen BK215.out 0
                     have hfz91_1 := blk_frozen BK215.out 1
                     have hnb92 := NB216_217.out
                     have hnc92 := NB217_216.out
                     have hcz93_0 : wr.cell? ⟨gb216, 0, none⟩ = some (.string x217000_31) := (blk_cell BK216.out 0).trans rfl
                     have hcz93_1 : wr.cell? ⟨gb216, 1, none⟩ = some (.int .i64 x217001_31) := (blk_cell BK216.out 1).trans rfl
                     have hfz93_0 := blk_frozen BK216.out 0
                     have hfz93_1 := blk_frozen BK216.out 1
                     have p87 : 0 ≤ ((ji85) : Int) := of_decide_eq_true (by first | (with_reducible assumption) | assumption)
                     have q87 : (ji85) < (x217000_31.size : Int) := of_decide_eq_true (by first | (with_reducible assumption) | assumption)
                     have hx87 := bt_at x217000_31 (ji85)
                     replace p87 := eq_true p87
                     replace q87 := eq_true q87
                     have p88 : 0 ≤ (x11_4 : Int) := of_decide_eq_true (by first | (with_reducible assumption) | assumption)
                     have q88 : (x11_4 : Int) < ((x8_4.length : Int) : Int) := of_decide_eq_true (by first | (with_reducible assumption) | assumption)
                     obtain ⟨go88, co88, eo88, gb88, gl88, cl88, HG88⟩ := Kd.R_form HO_8.out (by omega)
                     (first | cases eo88 | (injection eo88 with ea_ en_ ec_; (first | subst ea_ | (injection ea_ with ea_; subst ea_)); subst ec_; clear en_))
                     have GB88 := Aside0.mk gb88
                     have GG88 := Aside0.mk HG88
                     clear gb88 gl88 HG88
                     (first | simp only [add_plain] at hx233_0 | skip)
                     obtain ⟨hx88_0, hf88_0⟩ := Kd.R_celln 0 HO_8.out (x11_4 : Int) p88 q88
                     replace p88 := eq_true p88
                     replace q88 := eq_true q88
                     have HP94 := Kd.R_putg HO_8.out (x11_4 : Int) (48 + ((((((((rd x8_4 x11_4) - 48) % 256) + x10_4) % 256) + (((bt x217000_31 (ji85)) - 48) % 256)) % 256) % 10))
                     go_wp2_with (first | ((with_reducible refine gate_store (t := 5) (p := 121) rfl ?_); (try (rw [drewN_self wr]; generalize hq_ : World.drewN wr _ = wr; have n0_ := Aside0.mk (Kd.R_at hq_ HO_8.out); have n1_ := Aside0.mk (blk_at hq_ BK215.out); have n2_ := Aside0.mk (blk_at hq_ BK216.out); have n3_ := Aside0.mk (blk_at hq_ BK217.out); have n4_ := Aside0.mk (below_at hq_ HB.out); clear hq_ HO_8 BK215 BK216 BK217 HB; have HO_8 := n0_; have BK215 := n1_; have BK216 := n2_; have BK217 := n3_; have HB := n4_; clear n0_ n1_ n2_ n3_ n4_; (try (have HP94 := Kd.R_putg HO_8.out (x11_4 : Int) (48 + ((((((((rd x8_4 x11_4) - 48) % 256) + x10_4) % 256) + (((bt x217000_31 (ji85)) - 48) % 256)) % 256) % 10)))))); refine store_event (t := 5) (p := 121) (v := ?vo_w95) (w1 := (wr.setCell ⟨go88, (x11_4 : Int).toNat, none⟩ (.int .u8 (48 + ((((((((rd x8_4 x11_4) - 48) % 256) + x10_4) % 256) + (((bt x217000_31 (ji85)) - 48) % 256)) % 256) % 10))))) ?hg ?ho ?hn ?hr ?_; (case ho => rfl); (case hg => rfl); (case hn => rfl); (case hr => first | (go_simp; done) | (go_simp; rfl)); intro w95 hw; have hg : wr.grownBy w95 (some go88) := (by rw [hw]; exact HP94.2); have hp_ : Kd.R (Kd.int .u8) 5 w95 w.heap.size (fun _ => True) (.slice (some ⟨go88, 0, none⟩) x8_4.length co62) y234 := (by rw [hw, Ny234.out]; exact HP94.1); clear HP94; have n0_ := Aside0.mk (hp_); have n1_ := Aside0.mk (blk_grown (g := gb215) (o := .cells #[.string x216000_31, .int .i64 x216001_31] 28 (0, 0)) (by (with_reducible repeat (first | refine blk_drewN ?_ _ | refine blk_drew ?_ | refine blk_alloc ?_ _)); exact BK215.out) hg (Kd.R_ne HO_8.out BK215.out (by decide))); have n2_ := Aside0.mk (blk_grown (g := gb216) (o := .cells #[.string x217000_31, .int .i64 x217001_31] 28 (0, 0)) (by (with_reducible repeat (first | refine blk_drewN ?_ _ | refine blk_drew ?_ | refine blk_alloc ?_ _)); exact BK216.out) hg (Kd.R_ne HO_8.out BK216.out (by decide))); have n3_ := Aside0.mk (blk_grown (g := gb217) (o := .cells #[.string (⟨#[]⟩ : ByteArray), .int .i64 0] 28 (0, 0)) (by (with_reducible repeat (first | refine blk_drewN ?_ _ | refine blk_drew ?_ | refine blk_alloc ?_ _)); exact BK217.out) hg (Kd.R_ne HO_8.out BK217.out (by decide))); have n4_ := Aside0.mk ((by rw [hw]; exact below_set (HB.out) GB88.out : Below w.heap.size w w95)); clear HO_8; clear BK215; clear BK216; clear BK217; clear HB; have HO_8 := n0_; have BK215 := n1_; have BK216 := n2_; have BK217 := n3_; have HB := n4_; clear n0_ n1_ n2_ n3_ n4_; clear hg hw hp_))
                     (try simp only [← hl8_4])
                     go_roundg k4
                     case measure => have := HJ31.out; have := HK2.out; have := HJ68.out; have := HK4.out; omega
                     case rel => exact ⟨(y234), ((((((((rd x8_4 x11_4) - 48) % 256) + x10_4) % 256) + (((bt x217000_31 (ji85)) - 48) % 256)) % 256) / 10), (wrap64 (x11_4 - 1)), (by first | rfl | (simp; done) | (simp only [← hji85] <;> (first | rfl | simp)) | (simp [*]; done)), (by first | rfl | (simp; done) | (simp [*]; done)), H', ⟨by have := HJ31.out; have := HK2.out; have := HJ68.out; have := HK4.out; omega⟩, ⟨by (try simp only [hl61_2]); (try simp only [hl8_68]); (try simp only [hl8_4]); (with_reducible repeat (first | apply Kd.R_alloc | apply Kd.R_drewN | apply Kd.R_drew)); exact HO_8.out⟩, ⟨by (try simp only [hl61_2]); (try simp only [hl8_68]); (try simp only [hl8_4]); (with_reducible repeat (first | refine blk_drewN ?_ _ | refine blk_drew ?_ | refine blk_alloc ?_ _)); exact BK215.out⟩, ⟨by (try simp only [hl61_2]); (try simp only [hl8_68]); (try simp only [hl8_4]); (with_reducible repeat (first | refine blk_drewN ?_ _ | refine blk_drew ?_ | refine blk_alloc ?_ _)); exact BK216.out⟩, ⟨by (try simp only [hl61_2]); (try simp only [hl8_68]); (try simp only [hl8_4]); (with_reducible repeat (first | refine blk_drewN ?_ _ | refine blk_drew ?_ | refine blk_alloc ?_ _)); exact BK217.out⟩, ⟨by repeat (first | (with_reducible first | exact HB.out | apply below_alloc | apply pw_below_drewN | apply below_drew1 | refine below_set ?_ GE215.out | refine below_set ?_ GE216.out | refine below_set ?_ GE217.out) | exact HB.out)⟩⟩
                    ·rw [if_neg c86] at H
                     exact absurd H (by simp)
                   ·rw [if_neg c84] at H
                    have c84b0 : decide ((wrap64 ((wrap64 (x11_4 - 1)) - (wrap64 (x216001_31 - x217001_31)))) < (x217000_31.size : Int)) = false := decide_eq_false c84
                    clear c84
                    obtain ⟨y235, hy235⟩ : ∃ y_ : List Int, y_ = (x8_4.set (x11_4 : Int).toNat (48 + ((((((rd x8_4 x11_4) - 48) % 256) + x10_4) % 256) % 10))) := ⟨_, rfl⟩
                    replace H : (bigdec_Add.l1 k4 y235 ((((((rd x8_4 x11_4) - 48) % 256) + x10_4) % 256) / 10) (wrap64 (x11_4 - 1)) x216000_31 x216001_31 x217000_31 x217001_31) = some (r1, r2, r3) := by first | (rw [hy235]; with_reducible exact H) | (have H2_ := (Option.bind_some _ _).symm.trans H; rw [hy235]; with_reducible exact H2_) | (have H2_ := (Option.bind_some _ _).symm.trans H; with_reducible exact H2_) | with_reducible exact H | (rw [hy235]; exact H) | exact H
                    have Ny235 := Aside0.mk hy235
                    clear hy235
                    have H' := Aside0.mk H
                    clear H
                    have p233 : 0 ≤ (x11_4 : Int) := of_decide_eq_true (by first | (with_reducible assumption) | assumption)
                    have q233 : x11_4 < (x8_4.length : Int) := of_decide_eq_true (by first | (with_reducible assumption) | assumption)
                    obtain ⟨ad233, e233, hx233_0⟩ := Kd.at_int (Kd.R_reads' HO_8.out).2.2 x11_4 p233 q233
                    cases e233
                    replace p233 := eq_true p233
                    replace q233 := eq_true q233
                    have hnb97 := NB215_216.out
                    have hnc97 := NB216_215.out
                    have hnb98 := NB215_217.out
                    have hnc98 := NB217_215.out
                    have hcz99_0 : wr.cell? ⟨gb215, 0, none⟩ = some (.string x216000_31) := (blk_cell BK215.out 0).trans rfl
                    have hcz99_1 : wr.cell? ⟨gb215, 1, none⟩ = some (.int .i64 x216001_31) := (blk_cell BK215.out 1).trans rfl
                    have hfz99_0 := blk_frozen BK215.out 0
                    have hfz99_1 := blk_frozen BK215.out 1
                    have hnb100 := NB216_217.out
                    have hnc100 := NB217_216.out
                    have hcz101_0 : wr.cell? ⟨gb216, 0, none⟩ = some (.string x217000_31) := (blk_cell BK216.out 0).trans rfl
                    have hcz101_1 : wr.cell? ⟨gb216, 1, none⟩ = some (.int .i64 x217001_31) := (blk_cell BK216.out 1).trans rfl
                    have hfz101_0 := blk_frozen BK216.out 0
                    have hfz101_1 := blk_frozen BK216.out 1
                    have p96 : 0 ≤ (x11_4 : Int) := of_decide_eq_true (by first | (with_reducible assumption) | assumption)
                    have q96 : (x11_4 : Int) < ((x8_4.length : Int) : Int) := of_decide_eq_true (by first | (with_reducible assumption) | assumption)
                    obtain ⟨go96, co96, eo96, gb96, gl96, cl96, HG96⟩ := Kd.R_form HO_8.out (by omega)
                    (first | cases eo96 | (injection eo96 with ea_ en_ ec_; (first | subst ea_ | (injection ea_ with ea_; subst ea_)); subst ec_; clear en_))
                    have GB96 := Aside0.mk gb96
                    have GG96 := Aside0.mk HG96
                    clear gb96 gl96 HG96
                    (first | simp only [add_plain] at hx233_0 | skip)
                    obtain ⟨hx96_0, hf96_0⟩ := Kd.R_celln 0 HO_8.out (x11_4 : Int) p96 q96
                    replace p96 := eq_true p96
                    replace q96 := eq_true q96
                    have HP102 := Kd.R_putg HO_8.out (x11_4 : Int) (48 + ((((((rd x8_4 x11_4) - 48) % 256) + x10_4) % 256) % 10))
                    go_wp2_with (first | ((with_reducible refine gate_store (t := 5) (p := 121) rfl ?_); (try (rw [drewN_self wr]; generalize hq_ : World.drewN wr _ = wr; have n0_ := Aside0.mk (Kd.R_at hq_ HO_8.out); have n1_ := Aside0.mk (blk_at hq_ BK215.out); have n2_ := Aside0.mk (blk_at hq_ BK216.out); have n3_ := Aside0.mk (blk_at hq_ BK217.out); have n4_ := Aside0.mk (below_at hq_ HB.out); clear hq_ HO_8 BK215 BK216 BK217 HB; have HO_8 := n0_; have BK215 := n1_; have BK216 := n2_; have BK217 := n3_; have HB := n4_; clear n0_ n1_ n2_ n3_ n4_; (try (have HP102 := Kd.R_putg HO_8.out (x11_4 : Int) (48 + ((((((rd x8_4 x11_4) - 48) % 256) + x10_4) % 256) % 10)))))); refine store_event (t := 5) (p := 121) (v := ?vo_w103) (w1 := (wr.setCell ⟨go96, (x11_4 : Int).toNat, none⟩ (.int .u8 (48 + ((((((rd x8_4 x11_4) - 48) % 256) + x10_4) % 256) % 10))))) ?hg ?ho ?hn ?hr ?_; (case ho => rfl); (case hg => rfl); (case hn => rfl); (case hr => first | (go_simp; done) | (go_simp; rfl)); intro w103 hw; have hg : wr.grownBy w103 (some go96) := (by rw [hw]; exact HP102.2); have hp_ : Kd.R (Kd.int .u8) 5 w103 w.heap.size (fun _ => True) (.slice (some ⟨go96, 0, none⟩) x8_4.length co62) y235 := (by rw [hw, Ny235.out]; exact HP102.1); clear HP102; have n0_ := Aside0.mk (hp_); have n1_ := Aside0.mk (blk_grown (g := gb215) (o := .cells #[.string x216000_31, .int .i64 x216001_31] 28 (0, 0)) (by (with_reducible repeat (first | refine blk_drewN ?_ _ | refine blk_drew ?_ | refine blk_alloc ?_ _)); exact BK215.out) hg (Kd.R_ne HO_8.out BK215.out (by decide))); have n2_ := Aside0.mk (blk_grown (g := gb216) (o := .cells #[.string x217000_31, .int .i64 x217001_31] 28 (0, 0)) (by (with_reducible repeat (first | refine blk_drewN ?_ _ | refine blk_drew ?_ | refine blk_alloc ?_ _)); exact BK216.out) hg (Kd.R_ne HO_8.out BK216.out (by decide))); have n3_ := Aside0.mk (blk_grown (g := gb217) (o := .cells #[.string (⟨#[]⟩ : ByteArray), .int .i64 0] 28 (0, 0)) (by (with_reducible repeat (first | refine blk_drewN ?_ _ | refine blk_drew ?_ | refine blk_alloc ?_ _)); exact BK217.out) hg (Kd.R_ne HO_8.out BK217.out (by decide))); have n4_ := Aside0.mk ((by rw [hw]; exact below_set (HB.out) GB96.out : Below w.heap.size w w103)); clear HO_8; clear BK215; clear BK216; clear BK217; clear HB; have HO_8 := n0_; have BK215 := n1_; have BK216 := n2_; have BK217 := n3_; have HB := n4_; clear n0_ n1_ n2_ n3_ n4_; clear hg hw hp_))
                    (try simp only [← hl8_4])
                    go_roundg k4
                    case measure => have := HJ31.out; have := HK2.out; have := HJ68.out; have := HK4.out; omega
                    case rel => exact ⟨(y235), ((((((rd x8_4 x11_4) - 48) % 256) + x10_4) % 256) / 10), (wrap64 (x11_4 - 1)), (by first | rfl | (simp; done) | (simp [*]; done)), (by first | rfl | (simp; done) | (simp [*]; done)), H', ⟨by have := HJ31.out; have := HK2.out; have := HJ68.out; have := HK4.out; omega⟩, ⟨by (try simp only [hl61_2]); (try simp only [hl8_68]); (try simp only [hl8_4]); (with_reducible repeat (first | apply Kd.R_alloc | apply Kd.R_drewN | apply Kd.R_drew)); exact HO_8.out⟩, ⟨by (try simp only [hl61_2]); (try simp only [hl8_68]); (try simp only [hl8_4]); (with_reducible repeat (first | refine blk_drewN ?_ _ | refine blk_drew ?_ | refine blk_alloc ?_ _)); exact BK215.out⟩, ⟨by (try simp only [hl61_2]); (try simp only [hl8_68]); (try simp only [hl8_4]); (with_reducible repeat (first | refine blk_drewN ?_ _ | refine blk_drew ?_ | refine blk_alloc ?_ _)); exact BK216.out⟩, ⟨by (try simp only [hl61_2]); (try simp only [hl8_68]); (try simp only [hl8_4]); (with_reducible repeat (first | refine blk_drewN ?_ _ | refine blk_drew ?_ | refine blk_alloc ?_ _)); exact BK217.out⟩, ⟨by repeat (first | (with_reducible first | exact HB.out | apply below_alloc | apply pw_below_drewN | apply below_drew1 | refine below_set ?_ GE215.out | refine below_set ?_ GE216.out | refine below_set ?_ GE217.out) | exact HB.out)⟩⟩
                  ·rw [if_neg c83] at H
                   have c83b0 : decide (0 ≤ (wrap64 ((wrap64 (x11_4 - 1)) - (wrap64 (x216001_31 - x217001_31))))) = false := decide_eq_false c83
                   clear c83
                   obtain ⟨y236, hy236⟩ : ∃ y_ : List Int, y_ = (x8_4.set (x11_4 : Int).toNat (48 + ((((((rd x8_4 x11_4) - 48) % 256) + x10_4) % 256) % 10))) := ⟨_, rfl⟩
                   replace H : (bigdec_Add.l1 k4 y236 ((((((rd x8_4 x11_4) - 48) % 256) + x10_4) % 256) / 10) (wrap64 (x11_4 - 1)) x216000_31 x216001_31 x217000_31 x217001_31) = some (r1, r2, r3) := by first | (rw [hy236]; with_reducible exact H) | (have H2_ := (Option.bind_some _ _).symm.trans H; rw [hy236]; with_reducible exact H2_) | (have H2_ := (Option.bind_some _ _).symm.trans H; with_reducible exact H2_) | with_reducible exact H | (rw [hy236]; exact H) | exact H
                   have Ny236 := Aside0.mk hy236
                   clear hy236
                   have H' := Aside0.mk H
                   clear H
                   have p233 : 0 ≤ (x11_4 : Int) := of_decide_eq_true (by first | (with_reducible assumption) | assumption)
                   have q233 : x11_4 < (x8_4.length : Int) := of_decide_eq_true (by first | (with_reducible assumption) | assumption)
                   obtain ⟨ad233, e233, hx233_0⟩ := Kd.at_int (Kd.R_reads' HO_8.out).2.2 x11_4 p233 q233
                   cases e233
                   replace p233 := eq_true p233
                   replace q233 := eq_true q233
                   have hnb105 := NB215_216.out
                   have hnc105 := NB216_215.out
                   have hnb106 := NB215_217.out
                   have hnc106 := NB217_215.out
                   have hcz107_0 : wr.cell? ⟨gb215, 0, none⟩ = some (.string x216000_31) := (blk_cell BK215.out 0).trans rfl
                   have hcz107_1 : wr.cell? ⟨gb215, 1, none⟩ = some (.int .i64 x216001_31) := (blk_cell BK215.out 1).trans rfl
                   have hfz107_0 := blk_frozen BK215.out 0
                   have hfz107_1 := blk_frozen BK215.out 1
                   have hnb108 := NB216_217.out
                   have hnc108 := NB217_216.out
                   have hcz109_0 : wr.cell? ⟨gb216, 0, none⟩ = some (.string x217000_31) := (blk_cell BK216.out 0).trans rfl
                   have hcz109_1 : wr.cell? ⟨gb216, 1, none⟩ = some (.int .i64 x217001_31) := (blk_cell BK216.out 1).trans rfl
                   have hfz109_0 := blk_frozen BK216.out 0
                   have hfz109_1 := blk_frozen BK216.out 1
                   have p104 : 0 ≤ (x11_4 : Int) := of_decide_eq_true (by first | (with_reducible assumption) | assumption)
                   have q104 : (x11_4 : Int) < ((x8_4.length : Int) : Int) := of_decide_eq_true (by first | (with_reducible assumption) | assumption)
                   obtain ⟨go104, co104, eo104, gb104, gl104, cl104, HG104⟩ := Kd.R_form HO_8.out (by omega)
                   (first | cases eo104 | (injection eo104 with ea_ en_ ec_; (first | subst ea_ | (injection ea_ with ea_; subst ea_)); subst ec_; clear en_))
                   have GB104 := Aside0.mk gb104
                   have GG104 := Aside0.mk HG104
                   clear gb104 gl104 HG104
                   (first | simp only [add_plain] at hx233_0 | skip)
                   obtain ⟨hx104_0, hf104_0⟩ := Kd.R_celln 0 HO_8.out (x11_4 : Int) p104 q104
                   replace p104 := eq_true p104
                   replace q104 := eq_true q104
                   have HP110 := Kd.R_putg HO_8.out (x11_4 : Int) (48 + ((((((rd x8_4 x11_4) - 48) % 256) + x10_4) % 256) % 10))
                   go_wp2_with (first | ((with_reducible refine gate_store (t := 5) (p := 121) rfl ?_); (try (rw [drewN_self wr]; generalize hq_ : World.drewN wr _ = wr; have n0_ := Aside0.mk (Kd.R_at hq_ HO_8.out); have n1_ := Aside0.mk (blk_at hq_ BK215.out); have n2_ := Aside0.mk (blk_at hq_ BK216.out); have n3_ := Aside0.mk (blk_at hq_ BK217.out); have n4_ := Aside0.mk (below_at hq_ HB.out); clear hq_ HO_8 BK215 BK216 BK217 HB; have HO_8 := n0_; have BK215 := n1_; have BK216 := n2_; have BK217 := n3_; have HB := n4_; clear n0_ n1_ n2_ n3_ n4_; (try (have HP110 := Kd.R_putg HO_8.out (x11_4 : Int) (48 + ((((((rd x8_4 x11_4) - 48) % 256) + x10_4) % 256) % 10)))))); refine store_event (t := 5) (p := 121) (v := ?vo_w111) (w1 := (wr.setCell ⟨go104, (x11_4 : Int).toNat, none⟩ (.int .u8 (48 + ((((((rd x8_4 x11_4) - 48) % 256) + x10_4) % 256) % 10))))) ?hg ?ho ?hn ?hr ?_; (case ho => rfl); (case hg => rfl); (case hn => rfl); (case hr => first | (go_simp; done) | (go_simp; rfl)); intro w111 hw; have hg : wr.grownBy w111 (some go104) := (by rw [hw]; exact HP110.2); have hp_ : Kd.R (Kd.int .u8) 5 w111 w.heap.size (fun _ => True) (.slice (some ⟨go104, 0, none⟩) x8_4.length co62) y236 := (by rw [hw, Ny236.out]; exact HP110.1); clear HP110; have n0_ := Aside0.mk (hp_); have n1_ := Aside0.mk (blk_grown (g := gb215) (o := .cells #[.string x216000_31, .int .i64 x216001_31] 28 (0, 0)) (by (with_reducible repeat (first | refine blk_drewN ?_ _ | refine blk_drew ?_ | refine blk_alloc ?_ _)); exact BK215.out) hg (Kd.R_ne HO_8.out BK215.out (by decide))); have n2_ := Aside0.mk (blk_grown (g := gb216) (o := .cells #[.string x217000_31, .int .i64 x217001_31] 28 (0, 0)) (by (with_reducible repeat (first | refine blk_drewN ?_ _ | refine blk_drew ?_ | refine blk_alloc ?_ _)); exact BK216.out) hg (Kd.R_ne HO_8.out BK216.out (by decide))); have n3_ := Aside0.mk (blk_grown (g := gb217) (o := .cells #[.string (⟨#[]⟩ : ByteArray), .int .i64 0] 28 (0, 0)) (by (with_reducible repeat (first | refine blk_drewN ?_ _ | refine blk_drew ?_ | refine blk_alloc ?_ _)); exact BK217.out) hg (Kd.R_ne HO_8.out BK217.out (by decide))); have n4_ := Aside0.mk ((by rw [hw]; exact below_set (HB.out) GB104.out : Below w.heap.size w w111)); clear HO_8; clear BK215; clear BK216; clear BK217; clear HB; have HO_8 := n0_; have BK215 := n1_; have BK216 := n2_; have BK217 := n3_; have HB := n4_; clear n0_ n1_ n2_ n3_ n4_; clear hg hw hp_))
                   (try simp only [← hl8_4])
                   go_roundg k4
                   case measure => have := HJ31.out; have := HK2.out; have := HJ68.out; have := HK4.out; omega
                   case rel => exact ⟨(y236), ((((((rd x8_4 x11_4) - 48) % 256) + x10_4) % 256) / 10), (wrap64 (x11_4 - 1)), (by first | rfl | (simp; done) | (simp [*]; done)), (by first | rfl | (simp; done) | (simp [*]; done)), H', ⟨by have := HJ31.out; have := HK2.out; have := HJ68.out; have := HK4.out; omega⟩, ⟨by (try simp only [hl61_2]); (try simp only [hl8_68]); (try simp only [hl8_4]); (with_reducible repeat (first | apply Kd.R_alloc | apply Kd.R_drewN | apply Kd.R_drew)); exact HO_8.out⟩, ⟨by (try simp only [hl61_2]); (try simp only [hl8_68]); (try simp only [hl8_4]); (with_reducible repeat (first | refine blk_drewN ?_ _ | refine blk_drew ?_ | refine blk_alloc ?_ _)); exact BK215.out⟩, ⟨by (try simp only [hl61_2]); (try simp only [hl8_68]); (try simp only [hl8_4]); (with_reducible repeat (first | refine blk_drewN ?_ _ | refine blk_drew ?_ | refine blk_alloc ?_ _)); exact BK216.out⟩, ⟨by (try simp only [hl61_2]); (try simp only [hl8_68]); (try simp only [hl8_4]); (with_reducible repeat (first | refine blk_drewN ?_ _ | refine blk_drew ?_ | refine blk_alloc ?_ _)); exact BK217.out⟩, ⟨by repeat (first | (with_reducible first | exact HB.out | apply below_alloc | apply pw_below_drewN | apply below_drew1 | refine below_set ?_ GE215.out | refine below_set ?_ GE216.out | refine below_set ?_ GE217.out) | exact HB.out)⟩⟩
                 ·rw [if_neg c82] at H
                  exact absurd H (by simp)
                ·rw [if_neg c81] at H
                 exact absurd H (by simp)
               ·rw [if_neg c80] at H
                have c80b0 : decide (0 ≤ x11_4) = false := decide_eq_false c80
                clear c80
                replace H := Option.bind_eq_some_iff.mp H
                obtain ⟨⟨t237, t238⟩, A1120, H⟩ := H
                replace H : (if (t237.size : Int) > 2000 then (some ((⟨#[]⟩ : ByteArray), 0, 2)) else (some (t237, t238, 0))) = some (r1, r2, r3) := H
                have A112 := Aside0.mk A1120
                clear A1120
                by_cases c113 : (t237.size : Int) > 2000
                ·rw [if_pos c113] at H
                 have c113b0 : decide (2000 < (t237.size : Int)) = true := decide_eq_true c113
                 have c113b1 : decide (2000 < t237.size) = true := decide_eq_true (by omega)
                 clear c113
                 simp only [Option.some.injEq, Prod.mk.injEq] at H
                 obtain ⟨rfl, rfl, rfl⟩ := H
                 have hcv114 := own_string (P := Tryd.prog) Tryd.underlying48 Tryd.underlying5 Tryd.underlying9 (Kd.own_of_R HO_8.out)
                 have hnb115 := NB215_216.out
                 have hnc115 := NB216_215.out
                 have hnb116 := NB215_217.out
                 have hnc116 := NB217_215.out
                 have hcz117_0 : wr.cell? ⟨gb215, 0, none⟩ = some (.string x216000_31) := (blk_cell BK215.out 0).trans rfl
                 have hcz117_1 : wr.cell? ⟨gb215, 1, none⟩ = some (.int .i64 x216001_31) := (blk_cell BK215.out 1).trans rfl
                 have hfz117_0 := blk_frozen BK215.out 0
                 have hfz117_1 := blk_frozen BK215.out 1
                 go_wp2_with (first | (go_at_call 51; (with_reducible refine (bigdec_form.calls (strOfNums x8_4) (wrap64 (x216001_31 + 1)) t237 t238 _ A112.out).mono ?_); rintro e w118 ⟨rfl, hb⟩; have n0_ := Aside0.mk (Kd.R_below (by (with_reducible repeat (first | apply Kd.R_alloc | apply Kd.R_drewN | apply Kd.R_drew)); exact HO_8.out) hb); have n1_ := Aside0.mk (blk_below (g := gb215) (o := .cells #[.string x216000_31, .int .i64 x216001_31] 28 (0, 0)) (by (with_reducible repeat (first | refine blk_drewN ?_ _ | refine blk_drew ?_ | refine blk_alloc ?_ _)); exact BK215.out) hb); have n2_ := Aside0.mk (blk_below (g := gb216) (o := .cells #[.string x217000_31, .int .i64 x217001_31] 28 (0, 0)) (by (with_reducible repeat (first | refine blk_drewN ?_ _ | refine blk_drew ?_ | refine blk_alloc ?_ _)); exact BK216.out) hb); have n3_ := Aside0.mk (blk_below (g := gb217) (o := .cells #[.string (⟨#[]⟩ : ByteArray), .int .i64 0] 28 (0, 0)) (by (with_reducible repeat (first | refine blk_drewN ?_ _ | refine blk_drew ?_ | refine blk_alloc ?_ _)); exact BK217.out) hb); have n4_ := Aside0.mk (below_step (by repeat (first | (with_reducible first | exact HB.out | apply below_alloc | apply pw_below_drewN | apply below_drew1 | refine below_set ?_ GE215.out | refine below_set ?_ GE216.out | refine below_set ?_ GE217.out) | exact HB.out)) hb); clear HO_8; clear BK215; clear BK216; clear BK217; clear HB; have HO_8 := n0_; have BK215 := n1_; have BK216 := n2_; have BK217 := n3_; have HB := n4_; clear n0_ n1_ n2_ n3_ n4_; (try clear hb); (try clear hb2); (try clear hk); (try clear hi)) | ((with_reducible refine gate_dst (N := 14) rfl ?_); (try (refine gate_guard (by rfl) ?_; dsimp only)); refine box_event ?hg (N := 14) ?hd (cs := #[.string (⟨#[]⟩ : ByteArray), .int .i64 0]) (t := 28) ?hr ?_; (case hd => rfl); (case hg => rfl); (case hr => first | (go_simp; done) | (go_simp; rfl)); intro gb239 hg w119 hbox hb; have n0_ := Aside0.mk (Kd.R_below (by (with_reducible repeat (first | apply Kd.R_alloc | apply Kd.R_drewN | apply Kd.R_drew)); exact HO_8.out) hb); have n1_ := Aside0.mk (blk_below (g := gb215) (o := .cells #[.string x216000_31, .int .i64 x216001_31] 28 (0, 0)) (by (with_reducible repeat (first | refine blk_drewN ?_ _ | refine blk_drew ?_ | refine blk_alloc ?_ _)); exact BK215.out) hb); have n2_ := Aside0.mk (blk_below (g := gb216) (o := .cells #[.string x217000_31, .int .i64 x217001_31] 28 (0, 0)) (by (with_reducible repeat (first | refine blk_drewN ?_ _ | refine blk_drew ?_ | refine blk_alloc ?_ _)); exact BK216.out) hb); have n3_ := Aside0.mk (blk_below (g := gb217) (o := .cells #[.string (⟨#[]⟩ : ByteArray), .int .i64 0] 28 (0, 0)) (by (with_reducible repeat (first | refine blk_drewN ?_ _ | refine blk_drew ?_ | refine blk_alloc ?_ _)); exact BK217.out) hb); have n4_ := Aside0.mk (below_step (by repeat (first | (with_reducible first | exact HB.out | apply below_alloc | apply pw_below_drewN | apply below_drew1 | refine below_set ?_ GE215.out | refine below_set ?_ GE216.out | refine below_set ?_ GE217.out) | exact HB.out)) hb); have n5_ := Aside0.mk (hbox); have n6_ := Aside0.mk ((by rw [hg]; exact (below_size (by repeat (first | (with_reducible first | exact HB.out | apply below_alloc | apply pw_below_drewN | apply below_drew1 | refine below_set ?_ GE215.out | refine below_set ?_ GE216.out | refine below_set ?_ GE217.out) | exact HB.out))) : w.heap.size ≤ gb239)); have n7_ := Aside0.mk ((by rw [hg]; exact (below_size (by repeat (first | (with_reducible first | exact HB.out | apply below_alloc | apply pw_below_drewN | apply below_drew1 | refine below_set ?_ GE215.out | refine below_set ?_ GE216.out | refine below_set ?_ GE217.out) | exact HB.out))) : w.heap.size ≤ gb239)); have n8_ := Aside0.mk ((by rw [hg]; exact Nat.ne_of_lt (blk_lt (g := gb215) (o := .cells #[.string x216000_31, .int .i64 x216001_31] 28 (0, 0)) (by (with_reducible repeat (first | refine blk_drewN ?_ _ | refine blk_drew ?_ | refine blk_alloc ?_ _)); exact BK215.out)) : gb215 ≠ gb239)); have n9_ := Aside0.mk ((by rw [hg]; exact Nat.ne_of_gt (blk_lt (g := gb215) (o := .cells #[.string x216000_31, .int .i64 x216001_31] 28 (0, 0)) (by (with_reducible repeat (first | refine blk_drewN ?_ _ | refine blk_drew ?_ | refine blk_alloc ?_ _)); exact BK215.out)) : gb239 ≠ gb215)); have n10_ := Aside0.mk ((by rw [hg]; exact Nat.ne_of_lt (blk_lt (g := gb216) (o := .cells #[.string x217000_31, .int .i64 x217001_31] 28 (0, 0)) (by (with_reducible repeat (first | refine blk_drewN ?_ _ | refine blk_drew ?_ | refine blk_alloc ?_ _)); exact BK216.out)) : gb216 ≠ gb239)); have n11_ := Aside0.mk ((by rw [hg]; exact Nat.ne_of_gt (blk_lt (g := gb216) (o := .cells #[.string x217000_31, .int .i64 x217001_31] 28 (0, 0)) (by (with_reducible repeat (first | refine blk_drewN ?_ _ | refine blk_drew ?_ | refine blk_alloc ?_ _)); exact BK216.out)) : gb239 ≠ gb216)); have n12_ := Aside0.mk ((by rw [hg]; exact Nat.ne_of_lt (blk_lt (g := gb217) (o := .cells #[.string (⟨#[]⟩ : ByteArray), .int .i64 0] 28 (0, 0)) (by (with_reducible repeat (first | refine blk_drewN ?_ _ | refine blk_drew ?_ | refine blk_alloc ?_ _)); exact BK217.out)) : gb217 ≠ gb239)); have n13_ := Aside0.mk ((by rw [hg]; exact Nat.ne_of_gt (blk_lt (g := gb217) (o := .cells #[.string (⟨#[]⟩ : ByteArray), .int .i64 0] 28 (0, 0)) (by (with_reducible repeat (first | refine blk_drewN ?_ _ | refine blk_drew ?_ | refine blk_alloc ?_ _)); exact BK217.out)) : gb239 ≠ gb217)); clear HO_8; clear BK215; clear BK216; clear BK217; clear HB; have HO_8 := n0_; have BK215 := n1_; have BK216 := n2_; have BK217 := n3_; have HB := n4_; have BK239 := n5_; have GW239 := n6_; have GE239 := n7_; have NB215_239 := n8_; have NB239_215 := n9_; have NB216_239 := n10_; have NB239_216 := n11_; have NB217_239 := n12_; have NB239_217 := n13_; clear n0_ n1_ n2_ n3_ n4_ n5_ n6_ n7_ n8_ n9_ n10_ n11_ n12_ n13_; clear hb hbox hg; have hnb120 := NB239_215.out; have hnc120 := NB215_239.out; have hnb121 := NB239_216.out; have hnc121 := NB216_239.out; have hnb122 := NB239_217.out; have hnc122 := NB217_239.out; have hcz123_0 : w119.cell? ⟨gb239, 0, none⟩ = some (.string (⟨#[]⟩ : ByteArray)) := (blk_cell BK239.out 0).trans rfl; have hcz123_1 : w119.cell? ⟨gb239, 1, none⟩ = some (.int .i64 0) := (blk_cell BK239.out 1).trans rfl; have hfz123_0 := blk_frozen BK239.out 0; have hfz123_1 := blk_frozen BK239.out 1; have hnb124 := NB217_216.out; have hnc124 := NB216_217.out; have hcz125_0 : w119.cell? ⟨gb217, 0, none⟩ = some (.string (⟨#[]⟩ : ByteArray)) := (blk_cell BK217.out 0).trans rfl; have hcz125_1 : w119.cell? ⟨gb217, 1, none⟩ = some (.int .i64 0) := (blk_cell BK217.out 1).trans rfl; have hfz125_0 := blk_frozen BK217.out 0; have hfz125_1 := blk_frozen BK217.out 1))
                 refine bodyPost_ret (results_ct rfl _ _ gb217 28 #[.string (⟨#[]⟩ : ByteArray), .int .i64 0] (0, 0) _ rfl (by (with_reducible repeat (first | refine blk_drewN ?_ _ | refine blk_drew ?_ | refine blk_alloc ?_ _)); refine blk_put (cs := #[.string (⟨#[]⟩ : ByteArray), .int .i64 0]) ?_ 1 _ rfl; (with_reducible repeat (first | refine blk_drewN ?_ _ | refine blk_drew ?_ | refine blk_alloc ?_ _)); refine blk_put (cs := #[.string (⟨#[]⟩ : ByteArray), .int .i64 0]) ?_ 0 _ rfl; (with_reducible repeat (first | refine blk_drewN ?_ _ | refine blk_drew ?_ | refine blk_alloc ?_ _)); refine blk_far ?_ NB217_239.out _; (with_reducible repeat (first | refine blk_drewN ?_ _ | refine blk_drew ?_ | refine blk_alloc ?_ _)); refine blk_far ?_ NB217_239.out _; (with_reducible repeat (first | refine blk_drewN ?_ _ | refine blk_drew ?_ | refine blk_alloc ?_ _)); exact BK217.out) Tryd.underlying28 rfl (by kernel_rfl)) rfl ?_
                 exact ⟨by first | rfl | (simp [errW_none, errW_some] <;> rfl) | (simp only [← hji51, ← hji52]; first | rfl | (simp [errW_none, errW_some] <;> rfl)) | (simp [*, errW_none, errW_some] <;> rfl), by repeat (first | (with_reducible first | exact HB.out | apply below_alloc | apply pw_below_drewN | apply below_drew1 | refine below_set ?_ GE215.out | refine below_set ?_ GE216.out | refine below_set ?_ GE217.out | refine below_set ?_ GE239.out) | exact HB.out)⟩
                ·rw [if_neg c113] at H
                 have c113b0 : decide (2000 < (t237.size : Int)) = false := decide_eq_false c113
                 have c113b1 : decide (2000 < t237.size) = false := decide_eq_false (by omega)
                 clear c113
                 simp only [Option.some.injEq, Prod.mk.injEq] at H
                 obtain ⟨rfl, rfl, rfl⟩ := H
                 have hcv126 := own_string (P := Tryd.prog) Tryd.underlying48 Tryd.underlying5 Tryd.underlying9 (Kd.own_of_R HO_8.out)
                 have hnb127 := NB215_216.out
                 have hnc127 := NB216_215.out
                 have hnb128 := NB215_217.out
                 have hnc128 := NB217_215.out
                 have hcz129_0 : wr.cell? ⟨gb215, 0, none⟩ = some (.string x216000_31) := (blk_cell BK215.out 0).trans rfl
                 have hcz129_1 : wr.cell? ⟨gb215, 1, none⟩ = some (.int .i64 x216001_31) := (blk_cell BK215.out 1).trans rfl
                 have hfz129_0 := blk_frozen BK215.out 0
                 have hfz129_1 := blk_frozen BK215.out 1
                 go_wp2_with (first | (go_at_call 51; (with_reducible refine (bigdec_form.calls (strOfNums x8_4) (wrap64 (x216001_31 + 1)) t237 t238 _ A112.out).mono ?_); rintro e w130 ⟨rfl, hb⟩; have n0_ := Aside0.mk (Kd.R_below (by (with_reducible repeat (first | apply Kd.R_alloc | apply Kd.R_drewN | apply Kd.R_drew)); exact HO_8.out) hb); have n1_ := Aside0.mk (blk_below (g := gb215) (o := .cells #[.string x216000_31, .int .i64 x216001_31] 28 (0, 0)) (by (with_reducible repeat (first | refine blk_drewN ?_ _ | refine blk_drew ?_ | refine blk_alloc ?_ _)); exact BK215.out) hb); have n2_ := Aside0.mk (blk_below (g := gb216) (o := .cells #[.string x217000_31, .int .i64 x217001_31] 28 (0, 0)) (by (with_reducible repeat (first | refine blk_drewN ?_ _ | refine blk_drew ?_ | refine blk_alloc ?_ _)); exact BK216.out) hb); have n3_ := Aside0.mk (blk_below (g := gb217) (o := .cells #[.string (⟨#[]⟩ : ByteArray), .int .i64 0] 28 (0, 0)) (by (with_reducible repeat (first | refine blk_drewN ?_ _ | refine blk_drew ?_ | refine blk_alloc ?_ _)); exact BK217.out) hb); have n4_ := Aside0.mk (below_step (by repeat (first | (with_reducible first | exact HB.out | apply below_alloc | apply pw_below_drewN | apply below_drew1 | refine below_set ?_ GE215.out | refine below_set ?_ GE216.out | refine below_set ?_ GE217.out) | exact HB.out)) hb); clear HO_8; clear BK215; clear BK216; clear BK217; clear HB; have HO_8 := n0_; have BK215 := n1_; have BK216 := n2_; have BK217 := n3_; have HB := n4_; clear n0_ n1_ n2_ n3_ n4_; (try clear hb); (try clear hb2); (try clear hk); (try clear hi)) | ((with_reducible refine gate_dst (N := 14) rfl ?_); (try (refine gate_guard (by rfl) ?_; dsimp only)); refine box_event ?hg (N := 14) ?hd (cs := #[.string (⟨#[]⟩ : ByteArray), .int .i64 0]) (t := 28) ?hr ?_; (case hd => rfl); (case hg => rfl); (case hr => first | (go_simp; done) | (go_simp; rfl)); intro gb239 hg w131 hbox hb; have n0_ := Aside0.mk (Kd.R_below (by (with_reducible repeat (first | apply Kd.R_alloc | apply Kd.R_drewN | apply Kd.R_drew)); exact HO_8.out) hb); have n1_ := Aside0.mk (blk_below (g := gb215) (o := .cells #[.string x216000_31, .int .i64 x216001_31] 28 (0, 0)) (by (with_reducible repeat (first | refine blk_drewN ?_ _ | refine blk_drew ?_ | refine blk_alloc ?_ _)); exact BK215.out) hb); have n2_ := Aside0.mk (blk_below (g := gb216) (o := .cells #[.string x217000_31, .int .i64 x217001_31] 28 (0, 0)) (by (with_reducible repeat (first | refine blk_drewN ?_ _ | refine blk_drew ?_ | refine blk_alloc ?_ _)); exact BK216.out) hb); have n3_ := Aside0.mk (blk_below (g := gb217) (o := .cells #[.string (⟨#[]⟩ : ByteArray), .int .i64 0] 28 (0, 0)) (by (with_reducible repeat (first | refine blk_drewN ?_ _ | refine blk_drew ?_ | refine blk_alloc ?_ _)); exact BK217.out) hb); have n4_ := Aside0.mk (below_step (by repeat (first | (with_reducible first | exact HB.out | apply below_alloc | apply pw_below_drewN | apply below_drew1 | refine below_set ?_ GE215.out | refine below_set ?_ GE216.out | refine below_set ?_ GE217.out) | exact HB.out)) hb); have n5_ := Aside0.mk (hbox); have n6_ := Aside0.mk ((by rw [hg]; exact (below_size (by repeat (first | (with_reducible first | exact HB.out | apply below_alloc | apply pw_below_drewN | apply below_drew1 | refine below_set ?_ GE215.out | refine below_set ?_ GE216.out | refine below_set ?_ GE217.out) | exact HB.out))) : w.heap.size ≤ gb239)); have n7_ := Aside0.mk ((by rw [hg]; exact (below_size (by repeat (first | (with_reducible first | exact HB.out | apply below_alloc | apply pw_below_drewN | apply below_drew1 | refine below_set ?_ GE215.out | refine below_set ?_ GE216.out | refine below_set ?_ GE217.out) | exact HB.out))) : w.heap.size ≤ gb239)); have n8_ := Aside0.mk ((by rw [hg]; exact Nat.ne_of_lt (blk_lt (g := gb215) (o := .cells #[.string x216000_31, .int .i64 x216001_31] 28 (0, 0)) (by (with_reducible repeat (first | refine blk_drewN ?_ _ | refine blk_drew ?_ | refine blk_alloc ?_ _)); exact BK215.out)) : gb215 ≠ gb239)); have n9_ := Aside0.mk ((by rw [hg]; exact Nat.ne_of_gt (blk_lt (g := gb215) (o := .cells #[.string x216000_31, .int .i64 x216001_31] 28 (0, 0)) (by (with_reducible repeat (first | refine blk_drewN ?_ _ | refine blk_drew ?_ | refine blk_alloc ?_ _)); exact BK215.out)) : gb239 ≠ gb215)); have n10_ := Aside0.mk ((by rw [hg]; exact Nat.ne_of_lt (blk_lt (g := gb216) (o := .cells #[.string x217000_31, .int .i64 x217001_31] 28 (0, 0)) (by (with_reducible repeat (first | refine blk_drewN ?_ _ | refine blk_drew ?_ | refine blk_alloc ?_ _)); exact BK216.out)) : gb216 ≠ gb239)); have n11_ := Aside0.mk ((by rw [hg]; exact Nat.ne_of_gt (blk_lt (g := gb216) (o := .cells #[.string x217000_31, .int .i64 x217001_31] 28 (0, 0)) (by (with_reducible repeat (first | refine blk_drewN ?_ _ | refine blk_drew ?_ | refine blk_alloc ?_ _)); exact BK216.out)) : gb239 ≠ gb216)); have n12_ := Aside0.mk ((by rw [hg]; exact Nat.ne_of_lt (blk_lt (g := gb217) (o := .cells #[.string (⟨#[]⟩ : ByteArray), .int .i64 0] 28 (0, 0)) (by (with_reducible repeat (first | refine blk_drewN ?_ _ | refine blk_drew ?_ | refine blk_alloc ?_ _)); exact BK217.out)) : gb217 ≠ gb239)); have n13_ := Aside0.mk ((by rw [hg]; exact Nat.ne_of_gt (blk_lt (g := gb217) (o := .cells #[.string (⟨#[]⟩ : ByteArray), .int .i64 0] 28 (0, 0)) (by (with_reducible repeat (first | refine blk_drewN ?_ _ | refine blk_drew ?_ | refine blk_alloc ?_ _)); exact BK217.out)) : gb239 ≠ gb217)); clear HO_8; clear BK215; clear BK216; clear BK217; clear HB; have HO_8 := n0_; have BK215 := n1_; have BK216 := n2_; have BK217 := n3_; have HB := n4_; have BK239 := n5_; have GW239 := n6_; have GE239 := n7_; have NB215_239 := n8_; have NB239_215 := n9_; have NB216_239 := n10_; have NB239_216 := n11_; have NB217_239 := n12_; have NB239_217 := n13_; clear n0_ n1_ n2_ n3_ n4_ n5_ n6_ n7_ n8_ n9_ n10_ n11_ n12_ n13_; clear hb hbox hg; have hnb132 := NB239_215.out; have hnc132 := NB215_239.out; have hnb133 := NB239_216.out; have hnc133 := NB216_239.out; have hnb134 := NB239_217.out; have hnc134 := NB217_239.out; have hcz135_0 : w131.cell? ⟨gb239, 0, none⟩ = some (.string (⟨#[]⟩ : ByteArray)) := (blk_cell BK239.out 0).trans rfl; have hcz135_1 : w131.cell? ⟨gb239, 1, none⟩ = some (.int .i64 0) := (blk_cell BK239.out 1).trans rfl; have hfz135_0 := blk_frozen BK239.out 0; have hfz135_1 := blk_frozen BK239.out 1; have hnb136 := NB217_216.out; have hnc136 := NB216_217.out; have hcz137_0 : w131.cell? ⟨gb217, 0, none⟩ = some (.string (⟨#[]⟩ : ByteArray)) := (blk_cell BK217.out 0).trans rfl; have hcz137_1 : w131.cell? ⟨gb217, 1, none⟩ = some (.int .i64 0) := (blk_cell BK217.out 1).trans rfl; have hfz137_0 := blk_frozen BK217.out 0; have hfz137_1 := blk_frozen BK217.out 1))
                 refine bodyPost_ret (results_ct rfl _ _ gb217 28 #[.string t237, .int .i64 t238] (0, 0) _ rfl (by (with_reducible repeat (first | refine blk_drewN ?_ _ | refine blk_drew ?_ | refine blk_alloc ?_ _)); refine blk_put (cs := #[.string t237, .int .i64 0]) ?_ 1 _ rfl; (with_reducible repeat (first | refine blk_drewN ?_ _ | refine blk_drew ?_ | refine blk_alloc ?_ _)); refine blk_put (cs := #[.string (⟨#[]⟩ : ByteArray), .int .i64 0]) ?_ 0 _ rfl; (with_reducible repeat (first | refine blk_drewN ?_ _ | refine blk_drew ?_ | refine blk_alloc ?_ _)); refine blk_far ?_ NB217_239.out _; (with_reducible repeat (first | refine blk_drewN ?_ _ | refine blk_drew ?_ | refine blk_alloc ?_ _)); refine blk_far ?_ NB217_239.out _; (with_reducible repeat (first | refine blk_drewN ?_ _ | refine blk_drew ?_ | refine blk_alloc ?_ _)); exact BK217.out) Tryd.underlying28 rfl (by kernel_rfl)) rfl ?_
                 exact ⟨by first | rfl | (simp [errW_none, errW_some] <;> rfl) | (simp only [← hji51, ← hji52]; first | rfl | (simp [errW_none, errW_some] <;> rfl)) | (simp [*, errW_none, errW_some] <;> rfl), by repeat (first | (with_reducible first | exact HB.out | apply below_alloc | apply pw_below_drewN | apply below_drew1 | refine below_set ?_ GE215.out | refine below_set ?_ GE216.out | refine below_set ?_ GE217.out | refine below_set ?_ GE239.out) | exact HB.out)⟩
       ·rw [if_neg c54] at H
        exact absurd H (by simp)
      ·rw [if_neg c53] at H
       exact absurd H (by simp)
 ·rw [if_neg c4] at H
  have c4b0 : (t222 == 0) = false := beq_eq_false_iff_ne.mpr c4
  have c4b1 : (t222 != 0) = true := bne_iff_ne.mpr c4
  simp only [Option.some.injEq, Prod.mk.injEq] at H
  obtain ⟨rfl, rfl, rfl⟩ := H
  go_enter Tryd.func23, Tryd.ntmps23
  go_wp2_with (first | ((with_reducible refine gate_dst (N := 2) rfl ?_); (try (refine gate_guard (by rfl) ?_; dsimp only)); refine box_event ?hg (N := 2) ?hd (cs := #[.string a0_0, .int .i64 a0_1]) (t := 28) ?hr ?_; (case hd => rfl); (case hg => rfl); (case hr => first | (go_simp; done) | (go_simp; rfl)); intro gb215 hg w138 hbox hb; have n0_ := Aside0.mk (below_step (by repeat (first | (with_reducible first | exact HB.out | apply below_alloc | apply pw_below_drewN | apply below_drew1) | exact HB.out)) hb); have n1_ := Aside0.mk (hbox); have n2_ := Aside0.mk ((by rw [hg]; exact (below_size (by repeat (first | (with_reducible first | exact HB.out | apply below_alloc | apply pw_below_drewN | apply below_drew1) | exact HB.out))) : w.heap.size ≤ gb215)); have n3_ := Aside0.mk ((by rw [hg]; exact (below_size (by repeat (first | (with_reducible first | exact HB.out | apply below_alloc | apply pw_below_drewN | apply below_drew1) | exact HB.out))) : w.heap.size ≤ gb215)); clear HB; have HB := n0_; have BK215 := n1_; have GW215 := n2_; have GE215 := n3_; clear n0_ n1_ n2_ n3_; clear hb hbox hg) | ((with_reducible refine gate_dst (N := 3) rfl ?_); (try (refine gate_guard (by rfl) ?_; dsimp only)); refine box_event ?hg (N := 3) ?hd (cs := #[.string a1_0, .int .i64 a1_1]) (t := 28) ?hr ?_; (case hd => rfl); (case hg => rfl); (case hr => first | (go_simp; done) | (go_simp; rfl)); intro gb216 hg w139 hbox hb; have n0_ := Aside0.mk (blk_below (g := gb215) (o := .cells #[.string a0_0, .int .i64 a0_1] 28 (0, 0)) (by (with_reducible repeat (first | refine blk_drewN ?_ _ | refine blk_drew ?_ | refine blk_alloc ?_ _)); exact BK215.out) hb); have n1_ := Aside0.mk (below_step (by repeat (first | (with_reducible first | exact HB.out | apply below_alloc | apply pw_below_drewN | apply below_drew1 | refine below_set ?_ GE215.out) | exact HB.out)) hb); have n2_ := Aside0.mk (hbox); have n3_ := Aside0.mk ((by rw [hg]; exact (below_size (by repeat (first | (with_reducible first | exact HB.out | apply below_alloc | apply pw_below_drewN | apply below_drew1 | refine below_set ?_ GE215.out) | exact HB.out))) : w.heap.size ≤ gb216)); have n4_ := Aside0.mk ((by rw [hg]; exact (below_size (by repeat (first | (with_reducible first | exact HB.out | apply below_alloc | apply pw_below_drewN | apply below_drew1 | refine below_set ?_ GE215.out) | exact HB.out))) : w.heap.size ≤ gb216)); have n5_ := Aside0.mk ((by rw [hg]; exact Nat.ne_of_lt (blk_lt (g := gb215) (o := .cells #[.string a0_0, .int .i64 a0_1] 28 (0, 0)) (by (with_reducible repeat (first | refine blk_drewN ?_ _ | refine blk_drew ?_ | refine blk_alloc ?_ _)); exact BK215.out)) : gb215 ≠ gb216)); have n6_ := Aside0.mk ((by rw [hg]; exact Nat.ne_of_gt (blk_lt (g := gb215) (o := .cells #[.string a0_0, .int .i64 a0_1] 28 (0, 0)) (by (with_reducible repeat (first | refine blk_drewN ?_ _ | refine blk_drew ?_ | refine blk_alloc ?_ _)); exact BK215.out)) : gb216 ≠ gb215)); clear BK215; clear HB; have BK215 := n0_; have HB := n1_; have BK216 := n2_; have GW216 := n3_; have GE216 := n4_; have NB215_216 := n5_; have NB216_215 := n6_; clear n0_ n1_ n2_ n3_ n4_ n5_ n6_; clear hb hbox hg) | ((with_reducible refine gate_dst (N := 4) rfl ?_); (try (refine gate_guard (by rfl) ?_; dsimp only)); refine box_event ?hg (N := 4) ?hd (cs := #[.string (⟨#[]⟩ : ByteArray), .int .i64 0]) (t := 28) ?hr ?_; (case hd => rfl); (case hg => rfl); (case hr => first | (go_simp; done) | (go_simp; rfl)); intro gb217 hg w140 hbox hb; have n0_ := Aside0.mk (blk_below (g := gb215) (o := .cells #[.string a0_0, .int .i64 a0_1] 28 (0, 0)) (by (with_reducible repeat (first | refine blk_drewN ?_ _ | refine blk_drew ?_ | refine blk_alloc ?_ _)); exact BK215.out) hb); have n1_ := Aside0.mk (blk_below (g := gb216) (o := .cells #[.string a1_0, .int .i64 a1_1] 28 (0, 0)) (by (with_reducible repeat (first | refine blk_drewN ?_ _ | refine blk_drew ?_ | refine blk_alloc ?_ _)); exact BK216.out) hb); have n2_ := Aside0.mk (below_step (by repeat (first | (with_reducible first | exact HB.out | apply below_alloc | apply pw_below_drewN | apply below_drew1 | refine below_set ?_ GE215.out | refine below_set ?_ GE216.out) | exact HB.out)) hb); have n3_ := Aside0.mk (hbox); have n4_ := Aside0.mk ((by rw [hg]; exact (below_size (by repeat (first | (with_reducible first | exact HB.out | apply below_alloc | apply pw_below_drewN | apply below_drew1 | refine below_set ?_ GE215.out | refine below_set ?_ GE216.out) | exact HB.out))) : w.heap.size ≤ gb217)); have n5_ := Aside0.mk ((by rw [hg]; exact (below_size (by repeat (first | (with_reducible first | exact HB.out | apply below_alloc | apply pw_below_drewN | apply below_drew1 | refine below_set ?_ GE215.out | refine below_set ?_ GE216.out) | exact HB.out))) : w.heap.size ≤ gb217)); have n6_ := Aside0.mk ((by rw [hg]; exact Nat.ne_of_lt (blk_lt (g := gb215) (o := .cells #[.string a0_0, .int .i64 a0_1] 28 (0, 0)) (by (with_reducible repeat (first | refine blk_drewN ?_ _ | refine blk_drew ?_ | refine blk_alloc ?_ _)); exact BK215.out)) : gb215 ≠ gb217)); have n7_ := Aside0.mk ((by rw [hg]; exact Nat.ne_of_gt (blk_lt (g := gb215) (o := .cells #[.string a0_0, .int .i64 a0_1] 28 (0, 0)) (by (with_reducible repeat (first | refine blk_drewN ?_ _ | refine blk_drew ?_ | refine blk_alloc ?_ _)); exact BK215.out)) : gb217 ≠ gb215)); have n8_ := Aside0.mk ((by rw [hg]; exact Nat.ne_of_lt (blk_lt (g := gb216) (o := .cells #[.string a1_0, .int .i64 a1_1] 28 (0, 0)) (by (with_reducible repeat (first | refine blk_drewN ?_ _ | refine blk_drew ?_ | refine blk_alloc ?_ _)); exact BK216.out)) : gb216 ≠ gb217)); have n9_ := Aside0.mk ((by rw [hg]; exact Nat.ne_of_gt (blk_lt (g := gb216) (o := .cells #[.string a1_0, .int .i64 a1_1] 28 (0, 0)) (by (with_reducible repeat (first | refine blk_drewN ?_ _ | refine blk_drew ?_ | refine blk_alloc ?_ _)); exact BK216.out)) : gb217 ≠ gb216)); clear BK215; clear BK216; clear HB; have BK215 := n0_; have BK216 := n1_; have HB := n2_; have BK217 := n3_; have GW217 := n4_; have GE217 := n5_; have NB215_217 := n6_; have NB217_215 := n7_; have NB216_217 := n8_; have NB217_216 := n9_; clear n0_ n1_ n2_ n3_ n4_ n5_ n6_ n7_ n8_ n9_; clear hb hbox hg; have hnb141 := NB215_216.out; have hnc141 := NB216_215.out; have hnb142 := NB215_217.out; have hnc142 := NB217_215.out; have hcz143_0 : w140.cell? ⟨gb215, 0, none⟩ = some (.string a0_0) := (blk_cell BK215.out 0).trans rfl; have hcz143_1 : w140.cell? ⟨gb215, 1, none⟩ = some (.int .i64 a0_1) := (blk_cell BK215.out 1).trans rfl; have hfz143_0 := blk_frozen BK215.out 0; have hfz143_1 := blk_frozen BK215.out 1; have hnb144 := NB216_217.out; have hnc144 := NB217_216.out; have hcz145_0 : w140.cell? ⟨gb216, 0, none⟩ = some (.string a1_0) := (blk_cell BK216.out 0).trans rfl; have hcz145_1 : w140.cell? ⟨gb216, 1, none⟩ = some (.int .i64 a1_1) := (blk_cell BK216.out 1).trans rfl; have hfz145_0 := blk_frozen BK216.out 0; have hfz145_1 := blk_frozen BK216.out 1) | (go_at_call 49; (with_reducible refine (bigdec_two.calls k a0_0 a0_1 a1_0 a1_1 t218 t219 t220 t221 t222 _ A3.out).mono ?_); rintro e w146 ⟨rfl, hb⟩; have n0_ := Aside0.mk (blk_below (g := gb215) (o := .cells #[.string a0_0, .int .i64 a0_1] 28 (0, 0)) (by (with_reducible repeat (first | refine blk_drewN ?_ _ | refine blk_drew ?_ | refine blk_alloc ?_ _)); exact BK215.out) hb); have n1_ := Aside0.mk (blk_below (g := gb216) (o := .cells #[.string a1_0, .int .i64 a1_1] 28 (0, 0)) (by (with_reducible repeat (first | refine blk_drewN ?_ _ | refine blk_drew ?_ | refine blk_alloc ?_ _)); exact BK216.out) hb); have n2_ := Aside0.mk (blk_below (g := gb217) (o := .cells #[.string (⟨#[]⟩ : ByteArray), .int .i64 0] 28 (0, 0)) (by (with_reducible repeat (first | refine blk_drewN ?_ _ | refine blk_drew ?_ | refine blk_alloc ?_ _)); exact BK217.out) hb); have n3_ := Aside0.mk (below_step (by repeat (first | (with_reducible first | exact HB.out | apply below_alloc | apply pw_below_drewN | apply below_drew1 | refine below_set ?_ GE215.out | refine below_set ?_ GE216.out | refine below_set ?_ GE217.out) | exact HB.out)) hb); clear BK215; clear BK216; clear BK217; clear HB; have BK215 := n0_; have BK216 := n1_; have BK217 := n2_; have HB := n3_; clear n0_ n1_ n2_ n3_; (try clear hb); (try clear hb2); (try clear hk); (try clear hi); have hcz147_0 : w146.cell? ⟨gb215, 0, none⟩ = some (.string a0_0) := (blk_cell BK215.out 0).trans rfl; have hcz147_1 : w146.cell? ⟨gb215, 1, none⟩ = some (.int .i64 a0_1) := (blk_cell BK215.out 1).trans rfl; have hfz147_0 := blk_frozen BK215.out 0; have hfz147_1 := blk_frozen BK215.out 1; have hcz148_0 : w146.cell? ⟨gb216, 0, none⟩ = some (.string a1_0) := (blk_cell BK216.out 0).trans rfl; have hcz148_1 : w146.cell? ⟨gb216, 1, none⟩ = some (.int .i64 a1_1) := (blk_cell BK216.out 1).trans rfl; have hfz148_0 := blk_frozen BK216.out 0; have hfz148_1 := blk_frozen BK216.out 1; have hcz149_0 : w146.cell? ⟨gb217, 0, none⟩ = some (.string (⟨#[]⟩ : ByteArray)) := (blk_cell BK217.out 0).trans rfl; have hcz149_1 : w146.cell? ⟨gb217, 1, none⟩ = some (.int .i64 0) := (blk_cell BK217.out 1).trans rfl; have hfz149_0 := blk_frozen BK217.out 0; have hfz149_1 := blk_frozen BK217.out 1))
  refine bodyPost_ret (results_ct rfl _ _ gb217 28 #[.string (⟨#[]⟩ : ByteArray), .int .i64 0] (0, 0) _ rfl (by (with_reducible repeat (first | refine blk_drewN ?_ _ | refine blk_drew ?_ | refine blk_alloc ?_ _)); refine blk_put (cs := #[.string (⟨#[]⟩ : ByteArray), .int .i64 0]) ?_ 1 _ rfl; (with_reducible repeat (first | refine blk_drewN ?_ _ | refine blk_drew ?_ | refine blk_alloc ?_ _)); refine blk_put (cs := #[.string (⟨#[]⟩ : ByteArray), .int .i64 0]) ?_ 0 _ rfl; (with_reducible repeat (first | refine blk_drewN ?_ _ | refine blk_drew ?_ | refine blk_alloc ?_ _)); refine blk_far ?_ NB217_216.out _; (with_reducible repeat (first | refine blk_drewN ?_ _ | refine blk_drew ?_ | refine blk_alloc ?_ _)); refine blk_far ?_ NB217_216.out _; (with_reducible repeat (first | refine blk_drewN ?_ _ | refine blk_drew ?_ | refine blk_alloc ?_ _)); refine blk_far ?_ NB217_215.out _; (with_reducible repeat (first | refine blk_drewN ?_ _ | refine blk_drew ?_ | refine blk_alloc ?_ _)); refine blk_far ?_ NB217_215.out _; (with_reducible repeat (first | refine blk_drewN ?_ _ | refine blk_drew ?_ | refine blk_alloc ?_ _)); exact BK217.out) Tryd.underlying28 rfl (by kernel_rfl)) rfl ?_
  exact ⟨by first | rfl | (simp [errW_none, errW_some] <;> rfl) | (simp [*, errW_none, errW_some] <;> rfl), by repeat (first | (with_reducible first | exact HB.out | apply below_alloc | apply pw_below_drewN | apply below_drew1 | refine below_set ?_ GE215.out | refine below_set ?_ GE216.out | refine below_set ?_ GE217.out) | exact HB.out)⟩
end Go.Proofs.YtmeapdchnnpceaaDoor.Fn
end
section
namespace Go.Proofs.YtmeapdchnnpceaaDoor.Fn
open Go.RowKit Go.Proofs.YtmeapdchnnpceaaDoorW.PrintWords
def Bts (w : World) (e : TypeId) (g : Nat) (xs : List Int) : Prop :=
  ∃ cur lo hi, w.heap[g]? = some (.cells cur e (lo, hi)) ∧ xs.length ≤ cur.size ∧ cur.size ≤ lo ∧ cur.toList.take xs.length = nums .u8 xs
theorem Bts.made (w : World) (e : TypeId) (s : ByteArray) : Bts (Lib.bytesWorld w e s) e w.heap.size (bytesOf s) := by
  have hb : s.size ≤ (Lib.bytesCells w e s).size := by
    unfold Lib.bytesCells
    rw [Array.size_append, Array.size_map]
    exact Nat.le_add_right _ _
  refine ⟨_, _, _, Lib.bytesWorld_at_new w e s, by rw [bytesOf_length]; exact hb, Nat.le_refl _, ?_⟩
  rw [bytesOf_length]
  unfold Lib.bytesCells
  rw [Array.toList_append, List.take_append_of_le_length (by rw [Array.length_toList, Array.size_map]; exact Nat.le_refl _), List.take_of_length_le (by rw [Array.length_toList, Array.size_map]; exact Nat.le_refl _)]
  simp [nums, bytesOf]
theorem Bts.cell {w : World} {e : TypeId} {g : Nat} {xs : List Int} (h : Bts w e g xs) (i : Nat) (hi : i < xs.length) : w.cell? ⟨g, i, none⟩ = some (.int .u8 (rd xs i)) := by
  obtain ⟨cur, lo, hi', hg, hl, _, ht⟩ := h
  rw [cell_of_row w g i cur e (lo, hi') hg]
  have h2 : (cur.toList.take xs.length)[i]? = (nums .u8 xs)[i]? := by rw [ht]
  rw [List.getElem?_take_of_lt hi, Array.getElem?_toList] at h2
  rw [h2]
  simp [nums, rd, List.getElem?_eq_getElem hi, List.getD_eq_getElem?_getD]
theorem Bts.free {w : World} {e : TypeId} {g : Nat} {xs : List Int} (h : Bts w e g xs) (i : Nat) (hi : i < xs.length) : w.frozen? ⟨g, i, none⟩ = false := by
  obtain ⟨cur, lo, hi', hg, hl, hlo, _⟩ := h
  simp [World.frozen?, hg]
  omega
theorem Bts.set {w : World} {e : TypeId} {g : Nat} {xs : List Int} (h : Bts w e g xs) (i : Nat) (y : Int) : Bts (w.setCell ⟨g, i, none⟩ (.int .u8 y)) e g (xs.set i y) := by
  obtain ⟨cur, lo, hi', hg, hl, hlo, ht⟩ := h
  refine ⟨cur.setIfInBounds i (.int .u8 y), lo, hi', ?_, by simpa using hl, by simpa using hlo, ?_⟩
  · have hlt : g < w.heap.size := (Array.getElem?_eq_some_iff.1 hg).1
    have hv : w.heap[g] = .cells cur e (lo, hi') := (Array.getElem?_eq_some_iff.1 hg).2
    unfold World.setCell
    rw [Array.getElem?_eq_getElem (by simpa using hlt), Array.getElem_modify]
    simp [hv]
  · rw [List.length_set, Array.toList_setIfInBounds, List.take_set, ht]
    simp [nums, List.map_set]
theorem Bts.text {P : Program} {w : World} {e src dst : TypeId} {g cap : Nat} {xs : List Int} (h : Bts w e g xs) (hs : P.underlying src = some (.slice e)) (he : P.underlying e = some (.int .u8)) (hd : P.underlying dst = some .string) :
    (convert src dst (.slice (some ⟨g, 0, none⟩) xs.length cap)).run P w = .ok (.string (strOfNums xs)) w :=
  run_convert_bytes_arg w src e hs he g 0 xs.length cap xs rfl (fun i hi => by
    have := h.cell i hi
    rw [Nat.zero_add]
    exact this) dst hd
end Go.Proofs.YtmeapdchnnpceaaDoor.Fn
end
section
namespace Go.Proofs.YtmeapdchnnpceaaDoor.Fn
open Go.RowKit Go.Proofs.YtmeapdchnnpceaaDoorW.PrintWords
set_option linter.unusedVariables false
set_option linter.unusedSimpArgs false
def upGo (xs : List Int) : Nat → List Int
  | 0 => 49 :: xs
  | j + 1 => if rd xs j < 57 then xs.set j (rd xs j + 1) else upGo (xs.set j 48) j
def bigdec_up.f (s : ByteArray) : Option ByteArray := if s.size ≤ 100000 then some (strOfNums (upGo (bytesOf s) s.size)) else none
theorem pos_set {xs : List Int} (h : ∀ x ∈ xs, 0 ≤ x) (j : Nat) (y : Int) (hy : 0 ≤ y) : ∀ x ∈ xs.set j y, 0 ≤ x := by
  intro x hx
  rcases List.mem_or_eq_of_mem_set hx with h1 | h1
  · exact h x h1
  · rw [h1]; exact hy
theorem pos_rd {xs : List Int} (h : ∀ x ∈ xs, 0 ≤ x) (i : Int) : 0 ≤ rd xs i := by
  unfold rd
  rw [List.getD_eq_getElem?_getD]
  cases hg : xs[i.toNat]? with
  | none => simp
  | some x => exact h x (List.mem_of_getElem? hg)
theorem one_ahead (xs : List Int) : (⟨#[49]⟩ : ByteArray) ++ strOfNums xs = strOfNums (49 :: xs) := by
  apply ByteArray.ext
  rw [ByteArray.data_append]
  simp [strOfNums]
set_option maxHeartbeats 4000000 in
set_option maxRecDepth 100000 in
theorem bigdec_up.calls (a0 r : ByteArray) (w : World) (h : bigdec_up.f a0 = some r) :
    Calls Tryd.prog 64 #[.string a0] w fun e w' => e = .returned (.string r) ∧ Below w.heap.size w w' := by
  unfold bigdec_up.f at h
  split at h
  case isFalse => cases h
  rename_i hsz
  obtain rfl := Option.some.inj h
  clear h
  have kc := fun W => print_bytes (P := Tryd.prog) 9 48 5 Tryd.underlying9 Tryd.underlying48 Tryd.underlying5 a0 W
  have HM := Aside0.mk (Bts.made w 5 a0)
  have HB := Aside0.mk (bytes_below (Below.refl w.heap.size w) (Nat.le_refl _) 5 a0)
  have hlen : (bytesOf a0).length = a0.size := bytesOf_length a0
  have hpos : ∀ x ∈ bytesOf a0, 0 ≤ x := by
    intro x hx
    simp only [bytesOf, List.mem_map] at hx
    obtain ⟨b, _, rfl⟩ := hx
    omega
  have HP := Aside0.mk hpos
  have HL := Aside0.mk hlen
  clear hpos hlen
  go_enter Tryd.func64, Tryd.ntmps64
  go_wp2
  clear kc
  generalize grownCap w a0.size 0 5 = cap
  generalize hW1 : Lib.bytesWorld w 5 a0 = w1 at HM HB ⊢
  clear hW1
  go_loopw [4] (fun i wr => ∃ (j : Nat) (xs : List Int), j ≤ a0.size ∧ i = .int .i64 ((j : Int) - 1) ∧ Aside0 (xs.length = a0.size) ∧ Aside0 (∀ x ∈ xs, 0 ≤ x) ∧ Aside0 (upGo xs j = upGo (bytesOf a0) a0.size) ∧ Aside0 (Bts wr 5 w.heap.size xs) ∧ Aside0 (Below w.heap.size w wr)) (fun i _ => (intOf i + 1).toNat)
  case atStart => exact ⟨a0.size, bytesOf a0, Nat.le_refl _, rfl, HL, HP, ⟨rfl⟩, HM, HB⟩
  case round =>
    obtain ⟨j, xs, hj, rfl, HL1, HP1, HU, HM1, HB1⟩ := hrel
    cases j with
    | zero =>
      have ht := HM1.out.text (P := Tryd.prog) (src := 48) (dst := 9) (cap := cap) Tryd.underlying48 Tryd.underlying5 Tryd.underlying9
      rw [HL1.out] at ht
      have hsz2 : 1 + (strOfNums xs).size ≤ 9223372036854775807 := by rw [strOfNums_size, HL1.out]; omega
      go_wp2
      go_ret
      refine ⟨?_, HB1.out⟩
      rw [one_ahead, ← HU.out]
      rfl
    | succ m =>
      have hm : m < a0.size := hj
      have hml : m < xs.length := by rw [HL1.out]; exact hm
      have hc := HM1.out.cell m hml
      have hf := HM1.out.free m hml
      have hx := pos_rd HP1.out (m : Int)
      rw [show (((m + 1 : Nat) : Int) - 1) = (m : Int) by omega]
      have HU' : Aside0 ((if rd xs m < 57 then xs.set m (rd xs m + 1) else upGo (xs.set m 48) m) = upGo (bytesOf a0) a0.size) := ⟨HU.out⟩
      by_cases hlt : rd xs m < 57
      · have hS := HM1.out.set m (rd xs m + 1)
        have HS := Aside0.mk hS
        have HU2 := Aside0.mk ((if_pos hlt).symm.trans HU'.out)
        clear hS HU'
        have ht := HS.out.text (P := Tryd.prog) (src := 48) (dst := 9) (cap := cap) Tryd.underlying48 Tryd.underlying5 Tryd.underlying9
        rw [List.length_set, HL1.out] at ht
        have HBB := Aside0.mk (below_set HB1.out (Nat.le_refl _) : Below w.heap.size w (wr.setCell ⟨w.heap.size, m, none⟩ (.int .u8 (rd xs m + 1))))
        generalize rd xs m = x at *
        clear HM1
        go_wp2
        go_ret
        refine ⟨?_, HBB.out⟩
        rw [HU2.out]
        rfl
      · have HU2 := Aside0.mk ((if_neg hlt).symm.trans HU'.out)
        clear HU'
        go_wp2
        go_roundw
        case rel => exact ⟨m, xs.set m 48, by omega, by go_num, ⟨by rw [List.length_set]; exact HL1.out⟩, ⟨pos_set HP1.out m 48 (by omega)⟩, HU2, ⟨HM1.out.set m 48⟩, ⟨below_set HB1.out (Nat.le_refl _)⟩⟩
        case measure => simp [intOf]
end Go.Proofs.YtmeapdchnnpceaaDoor.Fn
end
