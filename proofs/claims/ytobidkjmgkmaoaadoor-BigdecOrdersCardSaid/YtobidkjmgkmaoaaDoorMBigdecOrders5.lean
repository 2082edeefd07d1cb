/- The law BigdecOrders: the walks through its functions and its plain law (part 5). Own texts and the kit's printed words for this seat, without what the law does not use: put together by merge.py (of this work). -/
import Derived.Test.YtobidkjmgkmaoaaDoorMBigdecOrders4
import Derived.Handy
section
namespace Go.Proofs.YtobidkjmgkmaoaaDoor.Fn
open Go.RowKit Go.Proofs.YtobidkjmgkmaoaaDoorW.PrintWords Go.Proofs.YtobidkjmgkmaoaaDoorW.PrintLast Go.Proofs.YtobidkjmgkmaoaaDoorW.PrintMore
attribute [local go_sem] min2_int min_two
set_option linter.unusedVariables false
set_option linter.unusedSimpArgs false
attribute [local go_sem high] eqA23
mutual
def platenlaw04_BigdecOrders.j0 : Nat → Int → Int → Int → Int → Int → Int → Int → Int → Bool → ByteArray → Int → ByteArray → Int → ByteArray → Int → Option (Bool)
 | 0, _, _, _, _, _, _, _, _, _, _, _, _, _, _, _ => none
 | k + 1, x7, x8, x9, x10, x11, x12, x13, x14, x48, x404000, x404001, x405000, x405001, x406000, x406001 => if x48 = true then (if x8 = 0 then (if x12 = 0 then ((platenlaw04_lives.f k).bind fun t414 => (some t414)) else (if x11 = 0 then ((platenlaw04_lives.f k).bind fun t415 => (some t415)) else (some false))) else (if x7 = 0 then (if x9 = 0 then (if x12 = 0 then ((platenlaw04_lives.f k).bind fun t416 => (some t416)) else (if x11 = 0 then ((platenlaw04_lives.f k).bind fun t417 => (some t417)) else (some false))) else (some false)) else (some false))) else (if x10 = 0 then (if x14 = 0 then (if x9 = (wrap64 (-x7)) then (if x7 ≤ 0 then (if x11 ≤ 0 then (platenlaw04_BigdecOrders.j1 k x7 (x13 != (mn x7 x11)) x404000 x404001 x405000 x405001 x406000 x406001) else (platenlaw04_BigdecOrders.j1 k x7 false x404000 x404001 x405000 x405001 x406000 x406001)) else (platenlaw04_BigdecOrders.j1 k x7 false x404000 x404001 x405000 x405001 x406000 x406001)) else (platenlaw04_BigdecOrders.j1 k x7 true x404000 x404001 x405000 x405001 x406000 x406001)) else (platenlaw04_BigdecOrders.j1 k x7 true x404000 x404001 x405000 x405001 x406000 x406001)) else (platenlaw04_BigdecOrders.j1 k x7 true x404000 x404001 x405000 x405001 x406000 x406001))
def platenlaw04_BigdecOrders.j1 : Nat → Int → Bool → ByteArray → Int → ByteArray → Int → ByteArray → Int → Option (Bool)
 | 0, _, _, _, _, _, _, _, _ => none
 | k + 1, x7, x96, x404000, x404001, x405000, x405001, x406000, x406001 => if x96 = true then (some false) else ((bigdec_Add.f k x404000 x404001 x406000 x406001).bind fun bt418 => ((bigdec_Add.f k x405000 x405001 x406000 x406001).bind fun bt422 => ((bigdec_Add.f k x406000 x406001 x404000 x404001).bind fun bt426 => (if bt418.2.2 = 0 then (platenlaw04_BigdecOrders.j2 k x7 bt418.2.2 bt426.2.2 (bt422.2.2 != 0) bt418.1 bt418.2.1 bt422.1 bt422.2.1 bt426.1 bt426.2.1) else (platenlaw04_BigdecOrders.j2 k x7 bt418.2.2 bt426.2.2 true bt418.1 bt418.2.1 bt422.1 bt422.2.1 bt426.1 bt426.2.1)))))
def platenlaw04_BigdecOrders.j2 : Nat → Int → Int → Int → Bool → ByteArray → Int → ByteArray → Int → ByteArray → Int → Option (Bool)
 | 0, _, _, _, _, _, _, _, _, _, _ => none
 | k + 1, x7, x8, x12, x120, x422000, x422001, x426000, x426001, x430000, x430001 => if x120 = true then (if x8 = x12 then ((platenlaw04_lives.f k).bind fun t430 => (some t430)) else (some false)) else ((bigdec_Cmp.f k x422000 x422001 x426000 x426001).bind fun bt431 => (if bt431.2 = 0 then (if bt431.1 = x7 then (if (!(x422000.toList == x430000.toList) || (!(x422001 == x430001))) = true then (some false) else ((platenlaw04_lives.f k).bind fun t433 => (some t433))) else (some false)) else (if (!(x422000.toList == x430000.toList) || (!(x422001 == x430001))) = true then (some false) else ((platenlaw04_lives.f k).bind fun t434 => (some t434)))))
end
def platenlaw04_BigdecOrders.f (k : Nat) (a0_0 : ByteArray) (a0_1 : Int) (a1_0 : ByteArray) (a1_1 : Int) (a2_0 : ByteArray) (a2_1 : Int) : Option (Bool) := (bigdec_Cmp.f k a0_0 a0_1 a1_0 a1_1).bind fun bt406 => ((bigdec_Cmp.f k a1_0 a1_1 a0_0 a0_1).bind fun bt408 => ((bigdec_Cmp.f k a1_0 a1_1 a2_0 a2_1).bind fun bt410 => ((bigdec_Cmp.f k a0_0 a0_1 a2_0 a2_1).bind fun bt412 => (if bt406.2 = 0 then (platenlaw04_BigdecOrders.j0 k bt406.1 bt406.2 bt408.1 bt408.2 bt410.1 bt410.2 bt412.1 bt412.2 (bt410.2 != 0) a0_0 a0_1 a1_0 a1_1 a2_0 a2_1) else (platenlaw04_BigdecOrders.j0 k bt406.1 bt406.2 bt408.1 bt408.2 bt410.1 bt410.2 bt412.1 bt412.2 true a0_0 a0_1 a1_0 a1_1 a2_0 a2_1)))))
set_option maxHeartbeats 8000000 in
set_option maxRecDepth 100000 in
theorem platenlaw04_BigdecOrders.calls (k : Nat) (a0_0 : ByteArray) (a0_1 : Int) (a1_0 : ByteArray) (a1_1 : Int) (a2_0 : ByteArray) (a2_1 : Int) (r : Bool) (w : World) (h : platenlaw04_BigdecOrders.f k a0_0 a0_1 a1_0 a1_1 a2_0 a2_1 = some r) :
  Calls Tryd.prog 10 #[.agg #[.string a0_0, .int .i64 a0_1], .agg #[.string a1_0, .int .i64 a1_1], .agg #[.string a2_0, .int .i64 a2_1]] w fun e w' => e = .returned (.bool r) ∧ Below w.heap.size w w' := by
 have hu23 := Tryd.underlying23
 have HB := Aside0.mk (Below.refl w.heap.size w)
 have H : ((bigdec_Cmp.f k a0_0 a0_1 a1_0 a1_1).bind fun bt406 => ((bigdec_Cmp.f k a1_0 a1_1 a0_0 a0_1).bind fun bt408 => ((bigdec_Cmp.f k a1_0 a1_1 a2_0 a2_1).bind fun bt410 => ((bigdec_Cmp.f k a0_0 a0_1 a2_0 a2_1).bind fun bt412 => (if bt406.2 = 0 then (platenlaw04_BigdecOrders.j0 k bt406.1 bt406.2 bt408.1 bt408.2 bt410.1 bt410.2 bt412.1 bt412.2 (bt410.2 != 0) a0_0 a0_1 a1_0 a1_1 a2_0 a2_1) else (platenlaw04_BigdecOrders.j0 k bt406.1 bt406.2 bt408.1 bt408.2 bt410.1 bt410.2 bt412.1 bt412.2 true a0_0 a0_1 a1_0 a1_1 a2_0 a2_1)))))) = some r := h
 clear h
 replace H := Option.bind_eq_some_iff.mp H
 obtain ⟨⟨t406, t407⟩, A40, H⟩ := H
 replace H : ((bigdec_Cmp.f k a1_0 a1_1 a0_0 a0_1).bind fun bt408 => ((bigdec_Cmp.f k a1_0 a1_1 a2_0 a2_1).bind fun bt410 => ((bigdec_Cmp.f k a0_0 a0_1 a2_0 a2_1).bind fun bt412 => (if t407 = 0 then (platenlaw04_BigdecOrders.j0 k t406 t407 bt408.1 bt408.2 bt410.1 bt410.2 bt412.1 bt412.2 (bt410.2 != 0) a0_0 a0_1 a1_0 a1_1 a2_0 a2_1) else (platenlaw04_BigdecOrders.j0 k t406 t407 bt408.1 bt408.2 bt410.1 bt410.2 bt412.1 bt412.2 true a0_0 a0_1 a1_0 a1_1 a2_0 a2_1))))) = some r := H
 have A4 := Aside0.mk A40
 clear A40
 replace H := Option.bind_eq_some_iff.mp H
 obtain ⟨⟨t408, t409⟩, A50, H⟩ := H
 replace H : ((bigdec_Cmp.f k a1_0 a1_1 a2_0 a2_1).bind fun bt410 => ((bigdec_Cmp.f k a0_0 a0_1 a2_0 a2_1).bind fun bt412 => (if t407 = 0 then (platenlaw04_BigdecOrders.j0 k t406 t407 t408 t409 bt410.1 bt410.2 bt412.1 bt412.2 (bt410.2 != 0) a0_0 a0_1 a1_0 a1_1 a2_0 a2_1) else (platenlaw04_BigdecOrders.j0 k t406 t407 t408 t409 bt410.1 bt410.2 bt412.1 bt412.2 true a0_0 a0_1 a1_0 a1_1 a2_0 a2_1)))) = some r := H
 have A5 := Aside0.mk A50
 clear A50
 replace H := Option.bind_eq_some_iff.mp H
 obtain ⟨⟨t410, t411⟩, A60, H⟩ := H
 replace H : ((bigdec_Cmp.f k a0_0 a0_1 a2_0 a2_1).bind fun bt412 => (if t407 = 0 then (platenlaw04_BigdecOrders.j0 k t406 t407 t408 t409 t410 t411 bt412.1 bt412.2 (t411 != 0) a0_0 a0_1 a1_0 a1_1 a2_0 a2_1) else (platenlaw04_BigdecOrders.j0 k t406 t407 t408 t409 t410 t411 bt412.1 bt412.2 true a0_0 a0_1 a1_0 a1_1 a2_0 a2_1))) = some r := H
 have A6 := Aside0.mk A60
 clear A60
 replace H := Option.bind_eq_some_iff.mp H
 obtain ⟨⟨t412, t413⟩, A70, H⟩ := H
 replace H : (if t407 = 0 then (platenlaw04_BigdecOrders.j0 k t406 t407 t408 t409 t410 t411 t412 t413 (t411 != 0) a0_0 a0_1 a1_0 a1_1 a2_0 a2_1) else (platenlaw04_BigdecOrders.j0 k t406 t407 t408 t409 t410 t411 t412 t413 true a0_0 a0_1 a1_0 a1_1 a2_0 a2_1)) = some r := H
 have A7 := Aside0.mk A70
 clear A70
 have HC8 := Aside0.mk H
 clear H
 go_enter Tryd.func10, Tryd.ntmps10
 go_upto_region 5 with (first | ((with_reducible refine gate_dst (N := 3) rfl ?_); (try (refine gate_guard (by rfl) ?_; dsimp only)); refine box_event ?hg (N := 3) ?hd (cs := #[.string a0_0, .int .i64 a0_1]) (t := 23) ?hr ?_; (case hd => rfl); (case hg => rfl); (case hr => first | (go_simp; done) | (go_simp; rfl)); intro gb403 hg w9 hbox hb; have n0_ := Aside0.mk (below_step (by repeat (first | (with_reducible first | exact HB.out | apply below_alloc | apply pw_below_drewN | apply below_drew1) | exact HB.out)) hb); have n1_ := Aside0.mk (hbox); have n2_ := Aside0.mk ((by rw [hg]; exact (below_size (by repeat (first | (with_reducible first | exact HB.out | apply below_alloc | apply pw_below_drewN | apply below_drew1) | exact HB.out))) : w.heap.size ≤ gb403)); have n3_ := Aside0.mk ((by rw [hg]; exact (below_size (by repeat (first | (with_reducible first | exact HB.out | apply below_alloc | apply pw_below_drewN | apply below_drew1) | exact HB.out))) : w.heap.size ≤ gb403)); clear HB; have HB := n0_; have BK403 := n1_; have GW403 := n2_; have GE403 := n3_; clear n0_ n1_ n2_ n3_; clear hb hbox hg) | ((with_reducible refine gate_dst (N := 4) rfl ?_); (try (refine gate_guard (by rfl) ?_; dsimp only)); refine box_event ?hg (N := 4) ?hd (cs := #[.string a1_0, .int .i64 a1_1]) (t := 23) ?hr ?_; (case hd => rfl); (case hg => rfl); (case hr => first | (go_simp; done) | (go_simp; rfl)); intro gb404 hg w10 hbox hb; have n0_ := Aside0.mk (blk_below (g := gb403) (o := .cells #[.string a0_0, .int .i64 a0_1] 23 (0, 0)) (by (with_reducible repeat (first | refine blk_drewN ?_ _ | refine blk_drew ?_ | refine blk_alloc ?_ _)); exact BK403.out) hb); have n1_ := Aside0.mk (below_step (by repeat (first | (with_reducible first | exact HB.out | apply below_alloc | apply pw_below_drewN | apply below_drew1 | refine below_set ?_ GE403.out) | exact HB.out)) hb); have n2_ := Aside0.mk (hbox); have n3_ := Aside0.mk ((by rw [hg]; exact (below_size (by repeat (first | (with_reducible first | exact HB.out | apply below_alloc | apply pw_below_drewN | apply below_drew1 | refine below_set ?_ GE403.out) | exact HB.out))) : w.heap.size ≤ gb404)); have n4_ := Aside0.mk ((by rw [hg]; exact (below_size (by repeat (first | (with_reducible first | exact HB.out | apply below_alloc | apply pw_below_drewN | apply below_drew1 | refine below_set ?_ GE403.out) | exact HB.out))) : w.heap.size ≤ gb404)); have n5_ := Aside0.mk ((by rw [hg]; exact Nat.ne_of_lt (blk_lt (g := gb403) (o := .cells #[.string a0_0, .int .i64 a0_1] 23 (0, 0)) (by (with_reducible repeat (first | refine blk_drewN ?_ _ | refine blk_drew ?_ | refine blk_alloc ?_ _)); exact BK403.out)) : gb403 ≠ gb404)); have n6_ := Aside0.mk ((by rw [hg]; exact Nat.ne_of_gt (blk_lt (g := gb403) (o := .cells #[.string a0_0, .int .i64 a0_1] 23 (0, 0)) (by (with_reducible repeat (first | refine blk_drewN ?_ _ | refine blk_drew ?_ | refine blk_alloc ?_ _)); exact BK403.out)) : gb404 ≠ gb403)); clear BK403; clear HB; have BK403 := n0_; have HB := n1_; have BK404 := n2_; have GW404 := n3_; have GE404 := n4_; have NB403_404 := n5_; have NB404_403 := n6_; clear n0_ n1_ n2_ n3_ n4_ n5_ n6_; clear hb hbox hg) | ((with_reducible refine gate_dst (N := 5) rfl ?_); (try (refine gate_guard (by rfl) ?_; dsimp only)); refine box_event ?hg (N := 5) ?hd (cs := #[.string a2_0, .int .i64 a2_1]) (t := 23) ?hr ?_; (case hd => rfl); (case hg => rfl); (case hr => first | (go_simp; done) | (go_simp; rfl)); intro gb405 hg w11 hbox hb; have n0_ := Aside0.mk (blk_below (g := gb403) (o := .cells #[.string a0_0, .int .i64 a0_1] 23 (0, 0)) (by (with_reducible repeat (first | refine blk_drewN ?_ _ | refine blk_drew ?_ | refine blk_alloc ?_ _)); exact BK403.out) hb); have n1_ := Aside0.mk (blk_below (g := gb404) (o := .cells #[.string a1_0, .int .i64 a1_1] 23 (0, 0)) (by (with_reducible repeat (first | refine blk_drewN ?_ _ | refine blk_drew ?_ | refine blk_alloc ?_ _)); exact BK404.out) hb); have n2_ := Aside0.mk (below_step (by repeat (first | (with_reducible first | exact HB.out | apply below_alloc | apply pw_below_drewN | apply below_drew1 | refine below_set ?_ GE403.out | refine below_set ?_ GE404.out) | exact HB.out)) hb); have n3_ := Aside0.mk (hbox); have n4_ := Aside0.mk ((by rw [hg]; exact (below_size (by repeat (first | (with_reducible first | exact HB.out | apply below_alloc | apply pw_below_drewN | apply below_drew1 | refine below_set ?_ GE403.out | refine below_set ?_ GE404.out) | exact HB.out))) : w.heap.size ≤ gb405)); have n5_ := Aside0.mk ((by rw [hg]; exact (below_size (by repeat (first | (with_reducible first | exact HB.out | apply below_alloc | apply pw_below_drewN | apply below_drew1 | refine below_set ?_ GE403.out | refine below_set ?_ GE404.out) | exact HB.out))) : w.heap.size ≤ gb405)); have n6_ := Aside0.mk ((by rw [hg]; exact Nat.ne_of_lt (blk_lt (g := gb403) (o := .cells #[.string a0_0, .int .i64 a0_1] 23 (0, 0)) (by (with_reducible repeat (first | refine blk_drewN ?_ _ | refine blk_drew ?_ | refine blk_alloc ?_ _)); exact BK403.out)) : gb403 ≠ gb405)); have n7_ := Aside0.mk ((by rw [hg]; exact Nat.ne_of_gt (blk_lt (g := gb403) (o := .cells #[.string a0_0, .int .i64 a0_1] 23 (0, 0)) (by (with_reducible repeat (first | refine blk_drewN ?_ _ | refine blk_drew ?_ | refine blk_alloc ?_ _)); exact BK403.out)) : gb405 ≠ gb403)); have n8_ := Aside0.mk ((by rw [hg]; exact Nat.ne_of_lt (blk_lt (g := gb404) (o := .cells #[.string a1_0, .int .i64 a1_1] 23 (0, 0)) (by (with_reducible repeat (first | refine blk_drewN ?_ _ | refine blk_drew ?_ | refine blk_alloc ?_ _)); exact BK404.out)) : gb404 ≠ gb405)); have n9_ := Aside0.mk ((by rw [hg]; exact Nat.ne_of_gt (blk_lt (g := gb404) (o := .cells #[.string a1_0, .int .i64 a1_1] 23 (0, 0)) (by (with_reducible repeat (first | refine blk_drewN ?_ _ | refine blk_drew ?_ | refine blk_alloc ?_ _)); exact BK404.out)) : gb405 ≠ gb404)); clear BK403; clear BK404; clear HB; have BK403 := n0_; have BK404 := n1_; have HB := n2_; have BK405 := n3_; have GW405 := n4_; have GE405 := n5_; have NB403_405 := n6_; have NB405_403 := n7_; have NB404_405 := n8_; have NB405_404 := n9_; clear n0_ n1_ n2_ n3_ n4_ n5_ n6_ n7_ n8_ n9_; clear hb hbox hg; have hnb12 := NB403_404.out; have hnc12 := NB404_403.out; have hnb13 := NB403_405.out; have hnc13 := NB405_403.out; have hcz14_0 : w11.cell? ⟨gb403, 0, none⟩ = some (.string a0_0) := (blk_cell BK403.out 0).trans rfl; have hcz14_1 : w11.cell? ⟨gb403, 1, none⟩ = some (.int .i64 a0_1) := (blk_cell BK403.out 1).trans rfl; have hfz14_0 := blk_frozen BK403.out 0; have hfz14_1 := blk_frozen BK403.out 1; have hnb15 := NB404_405.out; have hnc15 := NB405_404.out; have hcz16_0 : w11.cell? ⟨gb404, 0, none⟩ = some (.string a1_0) := (blk_cell BK404.out 0).trans rfl; have hcz16_1 : w11.cell? ⟨gb404, 1, none⟩ = some (.int .i64 a1_1) := (blk_cell BK404.out 1).trans rfl; have hfz16_0 := blk_frozen BK404.out 0; have hfz16_1 := blk_frozen BK404.out 1) | ((with_reducible refine gate_callee (f := 22) rfl ?_); refine goesL_ (some 22) rfl rfl Tryd.func22 (by kernel_rfl) rfl #[.agg #[.string a0_0, .int .i64 a0_1], .agg #[.string a1_0, .int .i64 a1_1]] rfl (by (try simp only [List.map_toArray, List.map_cons, List.map_nil]); first | done | rfl | (simp only [List.length_drop, List.length_take]; rfl)) ?_; (with_reducible refine (bigdec_Cmp.calls k a0_0 a0_1 a1_0 a1_1 t406 t407 _ A4.out).mono ?_); rintro e w17 ⟨rfl, hb⟩; refine ⟨_, rfl, ?_⟩; have n0_ := Aside0.mk (blk_below (g := gb403) (o := .cells #[.string a0_0, .int .i64 a0_1] 23 (0, 0)) (by (with_reducible repeat (first | refine blk_drewN ?_ _ | refine blk_drew ?_ | refine blk_alloc ?_ _)); exact BK403.out) hb); have n1_ := Aside0.mk (blk_below (g := gb404) (o := .cells #[.string a1_0, .int .i64 a1_1] 23 (0, 0)) (by (with_reducible repeat (first | refine blk_drewN ?_ _ | refine blk_drew ?_ | refine blk_alloc ?_ _)); exact BK404.out) hb); have n2_ := Aside0.mk (blk_below (g := gb405) (o := .cells #[.string a2_0, .int .i64 a2_1] 23 (0, 0)) (by (with_reducible repeat (first | refine blk_drewN ?_ _ | refine blk_drew ?_ | refine blk_alloc ?_ _)); exact BK405.out) hb); have n3_ := Aside0.mk (below_step (by repeat (first | (with_reducible first | exact HB.out | apply below_alloc | apply pw_below_drewN | apply below_drew1 | refine below_set ?_ GE403.out | refine below_set ?_ GE404.out | refine below_set ?_ GE405.out) | exact HB.out)) hb); clear BK403; clear BK404; clear BK405; clear HB; have BK403 := n0_; have BK404 := n1_; have BK405 := n2_; have HB := n3_; clear n0_ n1_ n2_ n3_; (try clear hb); (try clear hb2); (try clear hk); (try clear hi); have hcz18_0 : w17.cell? ⟨gb404, 0, none⟩ = some (.string a1_0) := (blk_cell BK404.out 0).trans rfl; have hcz18_1 : w17.cell? ⟨gb404, 1, none⟩ = some (.int .i64 a1_1) := (blk_cell BK404.out 1).trans rfl; have hfz18_0 := blk_frozen BK404.out 0; have hfz18_1 := blk_frozen BK404.out 1; have hcz19_0 : w17.cell? ⟨gb403, 0, none⟩ = some (.string a0_0) := (blk_cell BK403.out 0).trans rfl; have hcz19_1 : w17.cell? ⟨gb403, 1, none⟩ = some (.int .i64 a0_1) := (blk_cell BK403.out 1).trans rfl; have hfz19_0 := blk_frozen BK403.out 0; have hfz19_1 := blk_frozen BK403.out 1) | ((with_reducible refine gate_callee (f := 22) rfl ?_); refine goesL_ (some 28) rfl rfl Tryd.func22 (by kernel_rfl) rfl #[.agg #[.string a1_0, .int .i64 a1_1], .agg #[.string a0_0, .int .i64 a0_1]] rfl (by (try simp only [List.map_toArray, List.map_cons, List.map_nil]); first | done | rfl | (simp only [List.length_drop, List.length_take]; rfl)) ?_; (with_reducible refine (bigdec_Cmp.calls k a1_0 a1_1 a0_0 a0_1 t408 t409 _ A5.out).mono ?_); rintro e w20 ⟨rfl, hb⟩; refine ⟨_, rfl, ?_⟩; have n0_ := Aside0.mk (blk_below (g := gb403) (o := .cells #[.string a0_0, .int .i64 a0_1] 23 (0, 0)) (by (with_reducible repeat (first | refine blk_drewN ?_ _ | refine blk_drew ?_ | refine blk_alloc ?_ _)); exact BK403.out) hb); have n1_ := Aside0.mk (blk_below (g := gb404) (o := .cells #[.string a1_0, .int .i64 a1_1] 23 (0, 0)) (by (with_reducible repeat (first | refine blk_drewN ?_ _ | refine blk_drew ?_ | refine blk_alloc ?_ _)); exact BK404.out) hb); have n2_ := Aside0.mk (blk_below (g := gb405) (o := .cells #[.string a2_0, .int .i64 a2_1] 23 (0, 0)) (by (with_reducible repeat (first | refine blk_drewN ?_ _ | refine blk_drew ?_ | refine blk_alloc ?_ _)); exact BK405.out) hb); have n3_ := Aside0.mk (below_step (by repeat (first | (with_reducible first | exact HB.out | apply below_alloc | apply pw_below_drewN | apply below_drew1 | refine below_set ?_ GE403.out | refine below_set ?_ GE404.out | refine below_set ?_ GE405.out) | exact HB.out)) hb); clear BK403; clear BK404; clear BK405; clear HB; have BK403 := n0_; have BK404 := n1_; have BK405 := n2_; have HB := n3_; clear n0_ n1_ n2_ n3_; (try clear hb); (try clear hb2); (try clear hk); (try clear hi); have hcz21_0 : w20.cell? ⟨gb404, 0, none⟩ = some (.string a1_0) := (blk_cell BK404.out 0).trans rfl; have hcz21_1 : w20.cell? ⟨gb404, 1, none⟩ = some (.int .i64 a1_1) := (blk_cell BK404.out 1).trans rfl; have hfz21_0 := blk_frozen BK404.out 0; have hfz21_1 := blk_frozen BK404.out 1; have hcz22_0 : w20.cell? ⟨gb405, 0, none⟩ = some (.string a2_0) := (blk_cell BK405.out 0).trans rfl; have hcz22_1 : w20.cell? ⟨gb405, 1, none⟩ = some (.int .i64 a2_1) := (blk_cell BK405.out 1).trans rfl; have hfz22_0 := blk_frozen BK405.out 0; have hfz22_1 := blk_frozen BK405.out 1) | ((with_reducible refine gate_callee (f := 22) rfl ?_); refine goesL_ (some 34) rfl rfl Tryd.func22 (by kernel_rfl) rfl #[.agg #[.string a1_0, .int .i64 a1_1], .agg #[.string a2_0, .int .i64 a2_1]] rfl (by (try simp only [List.map_toArray, List.map_cons, List.map_nil]); first | done | rfl | (simp only [List.length_drop, List.length_take]; rfl)) ?_; (with_reducible refine (bigdec_Cmp.calls k a1_0 a1_1 a2_0 a2_1 t410 t411 _ A6.out).mono ?_); rintro e w23 ⟨rfl, hb⟩; refine ⟨_, rfl, ?_⟩; have n0_ := Aside0.mk (blk_below (g := gb403) (o := .cells #[.string a0_0, .int .i64 a0_1] 23 (0, 0)) (by (with_reducible repeat (first | refine blk_drewN ?_ _ | refine blk_drew ?_ | refine blk_alloc ?_ _)); exact BK403.out) hb); have n1_ := Aside0.mk (blk_below (g := gb404) (o := .cells #[.string a1_0, .int .i64 a1_1] 23 (0, 0)) (by (with_reducible repeat (first | refine blk_drewN ?_ _ | refine blk_drew ?_ | refine blk_alloc ?_ _)); exact BK404.out) hb); have n2_ := Aside0.mk (blk_below (g := gb405) (o := .cells #[.string a2_0, .int .i64 a2_1] 23 (0, 0)) (by (with_reducible repeat (first | refine blk_drewN ?_ _ | refine blk_drew ?_ | refine blk_alloc ?_ _)); exact BK405.out) hb); have n3_ := Aside0.mk (below_step (by repeat (first | (with_reducible first | exact HB.out | apply below_alloc | apply pw_below_drewN | apply below_drew1 | refine below_set ?_ GE403.out | refine below_set ?_ GE404.out | refine below_set ?_ GE405.out) | exact HB.out)) hb); clear BK403; clear BK404; clear BK405; clear HB; have BK403 := n0_; have BK404 := n1_; have BK405 := n2_; have HB := n3_; clear n0_ n1_ n2_ n3_; (try clear hb); (try clear hb2); (try clear hk); (try clear hi); have hcz24_0 : w23.cell? ⟨gb403, 0, none⟩ = some (.string a0_0) := (blk_cell BK403.out 0).trans rfl; have hcz24_1 : w23.cell? ⟨gb403, 1, none⟩ = some (.int .i64 a0_1) := (blk_cell BK403.out 1).trans rfl; have hfz24_0 := blk_frozen BK403.out 0; have hfz24_1 := blk_frozen BK403.out 1; have hcz25_0 : w23.cell? ⟨gb405, 0, none⟩ = some (.string a2_0) := (blk_cell BK405.out 0).trans rfl; have hcz25_1 : w23.cell? ⟨gb405, 1, none⟩ = some (.int .i64 a2_1) := (blk_cell BK405.out 1).trans rfl; have hfz25_0 := blk_frozen BK405.out 0; have hfz25_1 := blk_frozen BK405.out 1) | ((with_reducible refine gate_callee (f := 22) rfl ?_); refine goesL_ (some 40) rfl rfl Tryd.func22 (by kernel_rfl) rfl #[.agg #[.string a0_0, .int .i64 a0_1], .agg #[.string a2_0, .int .i64 a2_1]] rfl (by (try simp only [List.map_toArray, List.map_cons, List.map_nil]); first | done | rfl | (simp only [List.length_drop, List.length_take]; rfl)) ?_; (with_reducible refine (bigdec_Cmp.calls k a0_0 a0_1 a2_0 a2_1 t412 t413 _ A7.out).mono ?_); rintro e w26 ⟨rfl, hb⟩; refine ⟨_, rfl, ?_⟩; have n0_ := Aside0.mk (blk_below (g := gb403) (o := .cells #[.string a0_0, .int .i64 a0_1] 23 (0, 0)) (by (with_reducible repeat (first | refine blk_drewN ?_ _ | refine blk_drew ?_ | refine blk_alloc ?_ _)); exact BK403.out) hb); have n1_ := Aside0.mk (blk_below (g := gb404) (o := .cells #[.string a1_0, .int .i64 a1_1] 23 (0, 0)) (by (with_reducible repeat (first | refine blk_drewN ?_ _ | refine blk_drew ?_ | refine blk_alloc ?_ _)); exact BK404.out) hb); have n2_ := Aside0.mk (blk_below (g := gb405) (o := .cells #[.string a2_0, .int .i64 a2_1] 23 (0, 0)) (by (with_reducible repeat (first | refine blk_drewN ?_ _ | refine blk_drew ?_ | refine blk_alloc ?_ _)); exact BK405.out) hb); have n3_ := Aside0.mk (below_step (by repeat (first | (with_reducible first | exact HB.out | apply below_alloc | apply pw_below_drewN | apply below_drew1 | refine below_set ?_ GE403.out | refine below_set ?_ GE404.out | refine below_set ?_ GE405.out) | exact HB.out)) hb); clear BK403; clear BK404; clear BK405; clear HB; have BK403 := n0_; have BK404 := n1_; have BK405 := n2_; have HB := n3_; clear n0_ n1_ n2_ n3_; (try clear hb); (try clear hb2); (try clear hk); (try clear hi)))
 (try simp only [Act.put, List.setIfInBounds_toArray, List.set_cons_zero, List.set_cons_succ])
 go_cut [48] (fun v48 wc => ∃ (kq : Nat) (x48_7 : Bool), v48 = .bool x48_7 ∧ Aside0 (platenlaw04_BigdecOrders.j0 kq t406 t407 t408 t409 t410 t411 t412 t413 x48_7 a0_0 a0_1 a1_0 a1_1 a2_0 a2_1 = some r) ∧ Aside0 (kq ≤ k) ∧ Aside0 (wc.heap[gb403]? = some (.cells #[.string a0_0, .int .i64 a0_1] 23 (0, 0))) ∧ Aside0 (wc.heap[gb404]? = some (.cells #[.string a1_0, .int .i64 a1_1] 23 (0, 0))) ∧ Aside0 (wc.heap[gb405]? = some (.cells #[.string a2_0, .int .i64 a2_1] 23 (0, 0))) ∧ Aside0 (Below w.heap.size w wc))
 case first =>
  have H := HC8.out
  clear HC8
  by_cases c27 : t407 = 0
  ·rw [if_pos c27] at H
   have c27b0 : (t407 == 0) = true := beq_iff_eq.mpr c27
   have c27b1 : (t407 != 0) = false := bne_eq_false_iff_eq.mpr c27
   clear c27
   (first | rw [c27b0] | (simp only [i64_w, i32_w]; rw [c27b0]) | skip)
   have H' := Aside0.mk H
   clear H
   go_wp2
   go_meet
   case rel => exact ⟨_, ((t411 != 0)), (by first | rfl | (simp; done) | (simp [*]; done)), H', ⟨by first | omega | exact Nat.le_refl _⟩, ⟨by (with_reducible repeat (first | refine blk_drewN ?_ _ | refine blk_drew ?_ | refine blk_alloc ?_ _)); exact BK403.out⟩, ⟨by (with_reducible repeat (first | refine blk_drewN ?_ _ | refine blk_drew ?_ | refine blk_alloc ?_ _)); exact BK404.out⟩, ⟨by (with_reducible repeat (first | refine blk_drewN ?_ _ | refine blk_drew ?_ | refine blk_alloc ?_ _)); exact BK405.out⟩, ⟨by repeat (first | (with_reducible first | exact HB.out | apply below_alloc | apply pw_below_drewN | apply below_drew1 | refine below_set ?_ GE403.out | refine below_set ?_ GE404.out | refine below_set ?_ GE405.out) | exact HB.out)⟩⟩
  ·rw [if_neg c27] at H
   have c27b0 : (t407 == 0) = false := beq_eq_false_iff_ne.mpr c27
   have c27b1 : (t407 != 0) = true := bne_iff_ne.mpr c27
   (first | rw [c27b0] | (simp only [i64_w, i32_w]; rw [c27b0]) | skip)
   have H' := Aside0.mk H
   clear H
   go_wp2
   go_meet
   case rel => exact ⟨_, (true), (by first | rfl | (simp; done) | (simp [*]; done)), H', ⟨by first | omega | exact Nat.le_refl _⟩, ⟨by (with_reducible repeat (first | refine blk_drewN ?_ _ | refine blk_drew ?_ | refine blk_alloc ?_ _)); exact BK403.out⟩, ⟨by (with_reducible repeat (first | refine blk_drewN ?_ _ | refine blk_drew ?_ | refine blk_alloc ?_ _)); exact BK404.out⟩, ⟨by (with_reducible repeat (first | refine blk_drewN ?_ _ | refine blk_drew ?_ | refine blk_alloc ?_ _)); exact BK405.out⟩, ⟨by repeat (first | (with_reducible first | exact HB.out | apply below_alloc | apply pw_below_drewN | apply below_drew1 | refine below_set ?_ GE403.out | refine below_set ?_ GE404.out | refine below_set ?_ GE405.out) | exact HB.out)⟩⟩
 case rest =>
  clear HC8
  try clear c27
  try clear c27b0
  try clear c27b1
  try clear hcz14_0
  try clear hcz14_1
  try clear hcz16_0
  try clear hcz16_1
  try clear hcz18_0
  try clear hcz18_1
  try clear hcz19_0
  try clear hcz19_1
  try clear hcz21_0
  try clear hcz21_1
  try clear hcz22_0
  try clear hcz22_1
  try clear hcz24_0
  try clear hcz24_1
  try clear hcz25_0
  try clear hcz25_1
  try clear hfz14_0
  try clear hfz14_1
  try clear hfz16_0
  try clear hfz16_1
  try clear hfz18_0
  try clear hfz18_1
  try clear hfz19_0
  try clear hfz19_1
  try clear hfz21_0
  try clear hfz21_1
  try clear hfz22_0
  try clear hfz22_1
  try clear hfz24_0
  try clear hfz24_1
  try clear hfz25_0
  try clear hfz25_1
  obtain ⟨kq, x48_7, rfl, HA, HJ7, BK403, BK404, BK405, HB⟩ := hcut
  cases kq with
  | zero => exact absurd HA.out (by simp [platenlaw04_BigdecOrders.j0])
  | succ kj7 =>
   have H := HA.out
   clear HA
   simp only [platenlaw04_BigdecOrders.j0] at H
   by_cases c28 : x48_7 = true
   ·subst c28
    have H1 : (if t407 = 0 then (if t411 = 0 then ((platenlaw04_lives.f kj7).bind fun t414 => (some t414)) else (if t410 = 0 then ((platenlaw04_lives.f kj7).bind fun t415 => (some t415)) else (some false))) else (if t406 = 0 then (if t408 = 0 then (if t411 = 0 then ((platenlaw04_lives.f kj7).bind fun t416 => (some t416)) else (if t410 = 0 then ((platenlaw04_lives.f kj7).bind fun t417 => (some t417)) else (some false))) else (some false)) else (some false))) = some r := by rw [if_pos rfl] at H; exact H
    clear H
    have H := H1
    clear H1
    by_cases c29 : t407 = 0
    ·rw [if_pos c29] at H
     have c29b0 : (t407 == 0) = true := beq_iff_eq.mpr c29
     have c29b1 : (t407 != 0) = false := bne_eq_false_iff_eq.mpr c29
     clear c29
     by_cases c30 : t411 = 0
     ·rw [if_pos c30] at H
      have c30b0 : (t411 == 0) = true := beq_iff_eq.mpr c30
      have c30b1 : (t411 != 0) = false := bne_eq_false_iff_eq.mpr c30
      clear c30
      replace H := Option.bind_eq_some_iff.mp H
      obtain ⟨t414, A310, H⟩ := H
      replace H : (some t414) = some r := H
      have A31 := Aside0.mk A310
      clear A310
      obtain rfl := Option.some.inj H
      go_wp2_with (first | (go_at_call 15; (with_reducible refine (platenlaw04_lives.calls kj7  t414 _ A31.out).mono ?_); rintro e w32 ⟨rfl, hb⟩; have n0_ := Aside0.mk (blk_below (g := gb403) (o := .cells #[.string a0_0, .int .i64 a0_1] 23 (0, 0)) (by (with_reducible repeat (first | refine blk_drewN ?_ _ | refine blk_drew ?_ | refine blk_alloc ?_ _)); exact BK403.out) hb); have n1_ := Aside0.mk (blk_below (g := gb404) (o := .cells #[.string a1_0, .int .i64 a1_1] 23 (0, 0)) (by (with_reducible repeat (first | refine blk_drewN ?_ _ | refine blk_drew ?_ | refine blk_alloc ?_ _)); exact BK404.out) hb); have n2_ := Aside0.mk (blk_below (g := gb405) (o := .cells #[.string a2_0, .int .i64 a2_1] 23 (0, 0)) (by (with_reducible repeat (first | refine blk_drewN ?_ _ | refine blk_drew ?_ | refine blk_alloc ?_ _)); exact BK405.out) hb); have n3_ := Aside0.mk (below_step (by repeat (first | (with_reducible first | exact HB.out | apply below_alloc | apply pw_below_drewN | apply below_drew1 | refine below_set ?_ GE403.out | refine below_set ?_ GE404.out | refine below_set ?_ GE405.out) | exact HB.out)) hb); clear BK403; clear BK404; clear BK405; clear HB; have BK403 := n0_; have BK404 := n1_; have BK405 := n2_; have HB := n3_; clear n0_ n1_ n2_ n3_; (try clear hb); (try clear hb2); (try clear hk); (try clear hi)))
      go_ret
      exact ⟨by first | rfl | (simp [errW_none, errW_some] <;> rfl) | (simp [*, errW_none, errW_some] <;> rfl), by repeat (first | (with_reducible first | exact HB.out | apply below_alloc | apply pw_below_drewN | apply below_drew1 | refine below_set ?_ GE403.out | refine below_set ?_ GE404.out | refine below_set ?_ GE405.out) | exact HB.out)⟩
     ·rw [if_neg c30] at H
      have c30b0 : (t411 == 0) = false := beq_eq_false_iff_ne.mpr c30
      have c30b1 : (t411 != 0) = true := bne_iff_ne.mpr c30
      by_cases c33 : t410 = 0
      ·rw [if_pos c33] at H
       have c33b0 : (t410 == 0) = true := beq_iff_eq.mpr c33
       have c33b1 : (t410 != 0) = false := bne_eq_false_iff_eq.mpr c33
       clear c33
       replace H := Option.bind_eq_some_iff.mp H
       obtain ⟨t415, A340, H⟩ := H
       replace H : (some t415) = some r := H
       have A34 := Aside0.mk A340
       clear A340
       obtain rfl := Option.some.inj H
       go_wp2_with (first | (go_at_call 15; (with_reducible refine (platenlaw04_lives.calls kj7  t415 _ A34.out).mono ?_); rintro e w35 ⟨rfl, hb⟩; have n0_ := Aside0.mk (blk_below (g := gb403) (o := .cells #[.string a0_0, .int .i64 a0_1] 23 (0, 0)) (by (with_reducible repeat (first | refine blk_drewN ?_ _ | refine blk_drew ?_ | refine blk_alloc ?_ _)); exact BK403.out) hb); have n1_ := Aside0.mk (blk_below (g := gb404) (o := .cells #[.string a1_0, .int .i64 a1_1] 23 (0, 0)) (by (with_reducible repeat (first | refine blk_drewN ?_ _ | refine blk_drew ?_ | refine blk_alloc ?_ _)); exact BK404.out) hb); have n2_ := Aside0.mk (blk_below (g := gb405) (o := .cells #[.string a2_0, .int .i64 a2_1] 23 (0, 0)) (by (with_reducible repeat (first | refine blk_drewN ?_ _ | refine blk_drew ?_ | refine blk_alloc ?_ _)); exact BK405.out) hb); have n3_ := Aside0.mk (below_step (by repeat (first | (with_reducible first | exact HB.out | apply below_alloc | apply pw_below_drewN | apply below_drew1 | refine below_set ?_ GE403.out | refine below_set ?_ GE404.out | refine below_set ?_ GE405.out) | exact HB.out)) hb); clear BK403; clear BK404; clear BK405; clear HB; have BK403 := n0_; have BK404 := n1_; have BK405 := n2_; have HB := n3_; clear n0_ n1_ n2_ n3_; (try clear hb); (try clear hb2); (try clear hk); (try clear hi)))
       go_ret
       exact ⟨by first | rfl | (simp [errW_none, errW_some] <;> rfl) | (simp [*, errW_none, errW_some] <;> rfl), by repeat (first | (with_reducible first | exact HB.out | apply below_alloc | apply pw_below_drewN | apply below_drew1 | refine below_set ?_ GE403.out | refine below_set ?_ GE404.out | refine below_set ?_ GE405.out) | exact HB.out)⟩
      ·rw [if_neg c33] at H
       have c33b0 : (t410 == 0) = false := beq_eq_false_iff_ne.mpr c33
       have c33b1 : (t410 != 0) = true := bne_iff_ne.mpr c33
       obtain rfl := Option.some.inj H
       go_wp2
       go_ret
       exact ⟨by first | rfl | (simp [errW_none, errW_some] <;> rfl) | (simp [*, errW_none, errW_some] <;> rfl), by repeat (first | (with_reducible first | exact HB.out | apply below_alloc | apply pw_below_drewN | apply below_drew1 | refine below_set ?_ GE403.out | refine below_set ?_ GE404.out | refine below_set ?_ GE405.out) | exact HB.out)⟩
    ·rw [if_neg c29] at H
     have c29b0 : (t407 == 0) = false := beq_eq_false_iff_ne.mpr c29
     have c29b1 : (t407 != 0) = true := bne_iff_ne.mpr c29
     by_cases c36 : t406 = 0
     ·rw [if_pos c36] at H
      have c36b0 : (t406 == 0) = true := beq_iff_eq.mpr c36
      have c36b1 : (t406 != 0) = false := bne_eq_false_iff_eq.mpr c36
      clear c36
      by_cases c37 : t408 = 0
      ·rw [if_pos c37] at H
       have c37b0 : (t408 == 0) = true := beq_iff_eq.mpr c37
       have c37b1 : (t408 != 0) = false := bne_eq_false_iff_eq.mpr c37
       clear c37
       by_cases c38 : t411 = 0
       ·rw [if_pos c38] at H
        have c38b0 : (t411 == 0) = true := beq_iff_eq.mpr c38
        have c38b1 : (t411 != 0) = false := bne_eq_false_iff_eq.mpr c38
        clear c38
        replace H := Option.bind_eq_some_iff.mp H
        obtain ⟨t416, A390, H⟩ := H
        replace H : (some t416) = some r := H
        have A39 := Aside0.mk A390
        clear A390
        obtain rfl := Option.some.inj H
        go_wp2_with (first | (go_at_call 15; (with_reducible refine (platenlaw04_lives.calls kj7  t416 _ A39.out).mono ?_); rintro e w40 ⟨rfl, hb⟩; have n0_ := Aside0.mk (blk_below (g := gb403) (o := .cells #[.string a0_0, .int .i64 a0_1] 23 (0, 0)) (by (with_reducible repeat (first | refine blk_drewN ?_ _ | refine blk_drew ?_ | refine blk_alloc ?_ _)); exact BK403.out) hb); have n1_ := Aside0.mk (blk_below (g := gb404) (o := .cells #[.string a1_0, .int .i64 a1_1] 23 (0, 0)) (by (with_reducible repeat (first | refine blk_drewN ?_ _ | refine blk_drew ?_ | refine blk_alloc ?_ _)); exact BK404.out) hb); have n2_ := Aside0.mk (blk_below (g := gb405) (o := .cells #[.string a2_0, .int .i64 a2_1] 23 (0, 0)) (by (with_reducible repeat (first | refine blk_drewN ?_ _ | refine blk_drew ?_ | refine blk_alloc ?_ _)); exact BK405.out) hb); have n3_ := Aside0.mk (below_step (by repeat (first | (with_reducible first | exact HB.out | apply below_alloc | apply pw_below_drewN | apply below_drew1 | refine below_set ?_ GE403.out | refine below_set ?_ GE404.out | refine below_set ?_ GE405.out) | exact HB.out)) hb); clear BK403; clear BK404; clear BK405; clear HB; have BK403 := n0_; have BK404 := n1_; have BK405 := n2_; have HB := n3_; clear n0_ n1_ n2_ n3_; (try clear hb); (try clear hb2); (try clear hk); (try clear hi)))
        go_ret
        exact ⟨by first | rfl | (simp [errW_none, errW_some] <;> rfl) | (simp [*, errW_none, errW_some] <;> rfl), by repeat (first | (with_reducible first | exact HB.out | apply below_alloc | apply pw_below_drewN | apply below_drew1 | refine below_set ?_ GE403.out | refine below_set ?_ GE404.out | refine below_set ?_ GE405.out) | exact HB.out)⟩
       ·rw [if_neg c38] at H
        have c38b0 : (t411 == 0) = false := beq_eq_false_iff_ne.mpr c38
        have c38b1 : (t411 != 0) = true := bne_iff_ne.mpr c38
        by_cases c41 : t410 = 0
        ·rw [if_pos c41] at H
         have c41b0 : (t410 == 0) = true := beq_iff_eq.mpr c41
         have c41b1 : (t410 != 0) = false := bne_eq_false_iff_eq.mpr c41
         clear c41
         replace H := Option.bind_eq_some_iff.mp H
         obtain ⟨t417, A420, H⟩ := H
         replace H : (some t417) = some r := H
         have A42 := Aside0.mk A420
         clear A420
         obtain rfl := Option.some.inj H
         go_wp2_with (first | (go_at_call 15; (with_reducible refine (platenlaw04_lives.calls kj7  t417 _ A42.out).mono ?_); rintro e w43 ⟨rfl, hb⟩; have n0_ := Aside0.mk (blk_below (g := gb403) (o := .cells #[.string a0_0, .int .i64 a0_1] 23 (0, 0)) (by (with_reducible repeat (first | refine blk_drewN ?_ _ | refine blk_drew ?_ | refine blk_alloc ?_ _)); exact BK403.out) hb); have n1_ := Aside0.mk (blk_below (g := gb404) (o := .cells #[.string a1_0, .int .i64 a1_1] 23 (0, 0)) (by (with_reducible repeat (first | refine blk_drewN ?_ _ | refine blk_drew ?_ | refine blk_alloc ?_ _)); exact BK404.out) hb); have n2_ := Aside0.mk (blk_below (g := gb405) (o := .cells #[.string a2_0, .int .i64 a2_1] 23 (0, 0)) (by (with_reducible repeat (first | refine blk_drewN ?_ _ | refine blk_drew ?_ | refine blk_alloc ?_ _)); exact BK405.out) hb); have n3_ := Aside0.mk (below_step (by repeat (first | (with_reducible first | exact HB.out | apply below_alloc | apply pw_below_drewN | apply below_drew1 | refine below_set ?_ GE403.out | refine below_set ?_ GE404.out | refine below_set ?_ GE405.out) | exact HB.out)) hb); clear BK403; clear BK404; clear BK405; clear HB; have BK403 := n0_; have BK404 := n1_; have BK405 := n2_; have HB := n3_; clear n0_ n1_ n2_ n3_; (try clear hb); (try clear hb2); (try clear hk); (try clear hi)))
         go_ret
         exact ⟨by first | rfl | (simp [errW_none, errW_some] <;> rfl) | (simp [*, errW_none, errW_some] <;> rfl), by repeat (first | (with_reducible first | exact HB.out | apply below_alloc | apply pw_below_drewN | apply below_drew1 | refine below_set ?_ GE403.out | refine below_set ?_ GE404.out | refine below_set ?_ GE405.out) | exact HB.out)⟩
        ·rw [if_neg c41] at H
         have c41b0 : (t410 == 0) = false := beq_eq_false_iff_ne.mpr c41
         have c41b1 : (t410 != 0) = true := bne_iff_ne.mpr c41
         obtain rfl := Option.some.inj H
         go_wp2
         go_ret
         exact ⟨by first | rfl | (simp [errW_none, errW_some] <;> rfl) | (simp [*, errW_none, errW_some] <;> rfl), by repeat (first | (with_reducible first | exact HB.out | apply below_alloc | apply pw_below_drewN | apply below_drew1 | refine below_set ?_ GE403.out | refine below_set ?_ GE404.out | refine below_set ?_ GE405.out) | exact HB.out)⟩
      ·rw [if_neg c37] at H
       have c37b0 : (t408 == 0) = false := beq_eq_false_iff_ne.mpr c37
       have c37b1 : (t408 != 0) = true := bne_iff_ne.mpr c37
       obtain rfl := Option.some.inj H
       go_wp2
       go_ret
       exact ⟨by first | rfl | (simp [errW_none, errW_some] <;> rfl) | (simp [*, errW_none, errW_some] <;> rfl), by repeat (first | (with_reducible first | exact HB.out | apply below_alloc | apply pw_below_drewN | apply below_drew1 | refine below_set ?_ GE403.out | refine below_set ?_ GE404.out | refine below_set ?_ GE405.out) | exact HB.out)⟩
     ·rw [if_neg c36] at H
      have c36b0 : (t406 == 0) = false := beq_eq_false_iff_ne.mpr c36
      have c36b1 : (t406 != 0) = true := bne_iff_ne.mpr c36
      obtain rfl := Option.some.inj H
      go_wp2
      go_ret
      exact ⟨by first | rfl | (simp [errW_none, errW_some] <;> rfl) | (simp [*, errW_none, errW_some] <;> rfl), by repeat (first | (with_reducible first | exact HB.out | apply below_alloc | apply pw_below_drewN | apply below_drew1 | refine below_set ?_ GE403.out | refine below_set ?_ GE404.out | refine below_set ?_ GE405.out) | exact HB.out)⟩
   ·replace c28 := Bool.eq_false_iff.mpr c28
    subst c28
    have H1 : (if t409 = 0 then (if t413 = 0 then (if t408 = (wrap64 (-t406)) then (if t406 ≤ 0 then (if t410 ≤ 0 then (platenlaw04_BigdecOrders.j1 kj7 t406 (t412 != (mn t406 t410)) a0_0 a0_1 a1_0 a1_1 a2_0 a2_1) else (platenlaw04_BigdecOrders.j1 kj7 t406 false a0_0 a0_1 a1_0 a1_1 a2_0 a2_1)) else (platenlaw04_BigdecOrders.j1 kj7 t406 false a0_0 a0_1 a1_0 a1_1 a2_0 a2_1)) else (platenlaw04_BigdecOrders.j1 kj7 t406 true a0_0 a0_1 a1_0 a1_1 a2_0 a2_1)) else (platenlaw04_BigdecOrders.j1 kj7 t406 true a0_0 a0_1 a1_0 a1_1 a2_0 a2_1)) else (platenlaw04_BigdecOrders.j1 kj7 t406 true a0_0 a0_1 a1_0 a1_1 a2_0 a2_1)) = some r := by rw [if_neg (show ¬ (false = true) by decide)] at H; exact H
    clear H
    have H := H1
    clear H1
    have HC44 := Aside0.mk H
    clear H
    go_upto_region 7 with (fail)
    go_cut [96] (fun v96 wc => ∃ (kq : Nat) (x96_43 : Bool), v96 = .bool x96_43 ∧ Aside0 (platenlaw04_BigdecOrders.j1 kq t406 x96_43 a0_0 a0_1 a1_0 a1_1 a2_0 a2_1 = some r) ∧ Aside0 (kq ≤ kj7) ∧ Aside0 (wc.heap[gb403]? = some (.cells #[.string a0_0, .int .i64 a0_1] 23 (0, 0))) ∧ Aside0 (wc.heap[gb404]? = some (.cells #[.string a1_0, .int .i64 a1_1] 23 (0, 0))) ∧ Aside0 (wc.heap[gb405]? = some (.cells #[.string a2_0, .int .i64 a2_1] 23 (0, 0))) ∧ Aside0 (Below w.heap.size w wc))
    case first =>
     have H := HC44.out
     clear HC44
     by_cases c45 : t409 = 0
     ·rw [if_pos c45] at H
      have c45b0 : (t409 == 0) = true := beq_iff_eq.mpr c45
      have c45b1 : (t409 != 0) = false := bne_eq_false_iff_eq.mpr c45
      clear c45
      (first | rw [c45b0] | (simp only [i64_w, i32_w]; rw [c45b0]) | skip)
      by_cases c46 : t413 = 0
      ·rw [if_pos c46] at H
       have c46b0 : (t413 == 0) = true := beq_iff_eq.mpr c46
       have c46b1 : (t413 != 0) = false := bne_eq_false_iff_eq.mpr c46
       clear c46
       by_cases c47 : t408 = (wrap64 (-t406))
       ·rw [if_pos c47] at H
        have c47b0 : (t408 == (wrap64 (-t406))) = true := beq_iff_eq.mpr c47
        have c47b1 : (t408 != (wrap64 (-t406))) = false := bne_eq_false_iff_eq.mpr c47
        clear c47
        by_cases c48 : t406 ≤ 0
        ·rw [if_pos c48] at H
         have c48b0 : decide (t406 ≤ 0) = true := decide_eq_true c48
         clear c48
         by_cases c49 : t410 ≤ 0
         ·rw [if_pos c49] at H
          have c49b0 : decide (t410 ≤ 0) = true := decide_eq_true c49
          clear c49
          obtain ⟨ji50, hji50⟩ : ∃ j_ : Int, (mn t406 t410) = j_ := ⟨_, rfl⟩
          replace H : (platenlaw04_BigdecOrders.j1 kj7 t406 (t412 != (ji50)) a0_0 a0_1 a1_0 a1_1 a2_0 a2_1) = some r := by first | (rw [hji50] at H; exact H) | (simp only [hji50] at H ⊢; exact H)
          have hji50_ : (if t410 < t406 then t410 else t406) = ji50 := hji50
          have H' := Aside0.mk H
          clear H
          go_wp2
          go_meet
          case rel => exact ⟨_, ((t412 != (ji50))), (by first | rfl | (simp; done) | (simp only [← hji50] <;> (first | rfl | simp)) | (simp [*]; done)), H', ⟨by have := HJ7.out; first | omega | exact Nat.le_refl _⟩, ⟨by (with_reducible repeat (first | refine blk_drewN ?_ _ | refine blk_drew ?_ | refine blk_alloc ?_ _)); exact BK403.out⟩, ⟨by (with_reducible repeat (first | refine blk_drewN ?_ _ | refine blk_drew ?_ | refine blk_alloc ?_ _)); exact BK404.out⟩, ⟨by (with_reducible repeat (first | refine blk_drewN ?_ _ | refine blk_drew ?_ | refine blk_alloc ?_ _)); exact BK405.out⟩, ⟨by repeat (first | (with_reducible first | exact HB.out | apply below_alloc | apply pw_below_drewN | apply below_drew1 | refine below_set ?_ GE403.out | refine below_set ?_ GE404.out | refine below_set ?_ GE405.out) | exact HB.out)⟩⟩
         ·rw [if_neg c49] at H
          have c49b0 : decide (t410 ≤ 0) = false := decide_eq_false c49
          clear c49
          have H' := Aside0.mk H
          clear H
          go_wp2
          go_meet
          case rel => exact ⟨_, (false), (by first | rfl | (simp; done) | (simp [*]; done)), H', ⟨by have := HJ7.out; first | omega | exact Nat.le_refl _⟩, ⟨by (with_reducible repeat (first | refine blk_drewN ?_ _ | refine blk_drew ?_ | refine blk_alloc ?_ _)); exact BK403.out⟩, ⟨by (with_reducible repeat (first | refine blk_drewN ?_ _ | refine blk_drew ?_ | refine blk_alloc ?_ _)); exact BK404.out⟩, ⟨by (with_reducible repeat (first | refine blk_drewN ?_ _ | refine blk_drew ?_ | refine blk_alloc ?_ _)); exact BK405.out⟩, ⟨by repeat (first | (with_reducible first | exact HB.out | apply below_alloc | apply pw_below_drewN | apply below_drew1 | refine below_set ?_ GE403.out | refine below_set ?_ GE404.out | refine below_set ?_ GE405.out) | exact HB.out)⟩⟩
        ·rw [if_neg c48] at H
         have c48b0 : decide (t406 ≤ 0) = false := decide_eq_false c48
         clear c48
         have H' := Aside0.mk H
         clear H
         go_wp2
         go_meet
         case rel => exact ⟨_, (false), (by first | rfl | (simp; done) | (simp [*]; done)), H', ⟨by have := HJ7.out; first | omega | exact Nat.le_refl _⟩, ⟨by (with_reducible repeat (first | refine blk_drewN ?_ _ | refine blk_drew ?_ | refine blk_alloc ?_ _)); exact BK403.out⟩, ⟨by (with_reducible repeat (first | refine blk_drewN ?_ _ | refine blk_drew ?_ | refine blk_alloc ?_ _)); exact BK404.out⟩, ⟨by (with_reducible repeat (first | refine blk_drewN ?_ _ | refine blk_drew ?_ | refine blk_alloc ?_ _)); exact BK405.out⟩, ⟨by repeat (first | (with_reducible first | exact HB.out | apply below_alloc | apply pw_below_drewN | apply below_drew1 | refine below_set ?_ GE403.out | refine below_set ?_ GE404.out | refine below_set ?_ GE405.out) | exact HB.out)⟩⟩
       ·rw [if_neg c47] at H
        have c47b0 : (t408 == (wrap64 (-t406))) = false := beq_eq_false_iff_ne.mpr c47
        have c47b1 : (t408 != (wrap64 (-t406))) = true := bne_iff_ne.mpr c47
        have H' := Aside0.mk H
        clear H
        go_wp2
        go_meet
        case rel => exact ⟨_, (true), (by first | rfl | (simp; done) | (simp [*]; done)), H', ⟨by have := HJ7.out; first | omega | exact Nat.le_refl _⟩, ⟨by (with_reducible repeat (first | refine blk_drewN ?_ _ | refine blk_drew ?_ | refine blk_alloc ?_ _)); exact BK403.out⟩, ⟨by (with_reducible repeat (first | refine blk_drewN ?_ _ | refine blk_drew ?_ | refine blk_alloc ?_ _)); exact BK404.out⟩, ⟨by (with_reducible repeat (first | refine blk_drewN ?_ _ | refine blk_drew ?_ | refine blk_alloc ?_ _)); exact BK405.out⟩, ⟨by repeat (first | (with_reducible first | exact HB.out | apply below_alloc | apply pw_below_drewN | apply below_drew1 | refine below_set ?_ GE403.out | refine below_set ?_ GE404.out | refine below_set ?_ GE405.out) | exact HB.out)⟩⟩
      ·rw [if_neg c46] at H
       have c46b0 : (t413 == 0) = false := beq_eq_false_iff_ne.mpr c46
       have c46b1 : (t413 != 0) = true := bne_iff_ne.mpr c46
       have H' := Aside0.mk H
       clear H
       go_wp2
       go_meet
       case rel => exact ⟨_, (true), (by first | rfl | (simp; done) | (simp [*]; done)), H', ⟨by have := HJ7.out; first | omega | exact Nat.le_refl _⟩, ⟨by (with_reducible repeat (first | refine blk_drewN ?_ _ | refine blk_drew ?_ | refine blk_alloc ?_ _)); exact BK403.out⟩, ⟨by (with_reducible repeat (first | refine blk_drewN ?_ _ | refine blk_drew ?_ | refine blk_alloc ?_ _)); exact BK404.out⟩, ⟨by (with_reducible repeat (first | refine blk_drewN ?_ _ | refine blk_drew ?_ | refine blk_alloc ?_ _)); exact BK405.out⟩, ⟨by repeat (first | (with_reducible first | exact HB.out | apply below_alloc | apply pw_below_drewN | apply below_drew1 | refine below_set ?_ GE403.out | refine below_set ?_ GE404.out | refine below_set ?_ GE405.out) | exact HB.out)⟩⟩
     ·rw [if_neg c45] at H
      have c45b0 : (t409 == 0) = false := beq_eq_false_iff_ne.mpr c45
      have c45b1 : (t409 != 0) = true := bne_iff_ne.mpr c45
      (first | rw [c45b0] | (simp only [i64_w, i32_w]; rw [c45b0]) | skip)
      have H' := Aside0.mk H
      clear H
      go_wp2
      go_meet
      case rel => exact ⟨_, (true), (by first | rfl | (simp; done) | (simp [*]; done)), H', ⟨by have := HJ7.out; first | omega | exact Nat.le_refl _⟩, ⟨by (with_reducible repeat (first | refine blk_drewN ?_ _ | refine blk_drew ?_ | refine blk_alloc ?_ _)); exact BK403.out⟩, ⟨by (with_reducible repeat (first | refine blk_drewN ?_ _ | refine blk_drew ?_ | refine blk_alloc ?_ _)); exact BK404.out⟩, ⟨by (with_reducible repeat (first | refine blk_drewN ?_ _ | refine blk_drew ?_ | refine blk_alloc ?_ _)); exact BK405.out⟩, ⟨by repeat (first | (with_reducible first | exact HB.out | apply below_alloc | apply pw_below_drewN | apply below_drew1 | refine below_set ?_ GE403.out | refine below_set ?_ GE404.out | refine below_set ?_ GE405.out) | exact HB.out)⟩⟩
    case rest =>
     clear HC44
     try clear c27
     try clear c27b0
     try clear c27b1
     try clear c28
     try clear c29
     try clear c29b0
     try clear c29b1
     try clear c30
     try clear c30b0
     try clear c30b1
     try clear c33
     try clear c33b0
     try clear c33b1
     try clear c36
     try clear c36b0
     try clear c36b1
     try clear c37
     try clear c37b0
     try clear c37b1
     try clear c38
     try clear c38b0
     try clear c38b1
     try clear c41
     try clear c41b0
     try clear c41b1
     try clear c45
     try clear c45b0
     try clear c45b1
     try clear c46
     try clear c46b0
     try clear c46b1
     try clear c47
     try clear c47b0
     try clear c47b1
     try clear c48
     try clear c48b0
     try clear c49
     try clear c49b0
     try clear hcz14_0
     try clear hcz14_1
     try clear hcz16_0
     try clear hcz16_1
     try clear hcz18_0
     try clear hcz18_1
     try clear hcz19_0
     try clear hcz19_1
     try clear hcz21_0
     try clear hcz21_1
     try clear hcz22_0
     try clear hcz22_1
     try clear hcz24_0
     try clear hcz24_1
     try clear hcz25_0
     try clear hcz25_1
     try clear hfz14_0
     try clear hfz14_1
     try clear hfz16_0
     try clear hfz16_1
     try clear hfz18_0
     try clear hfz18_1
     try clear hfz19_0
     try clear hfz19_1
     try clear hfz21_0
     try clear hfz21_1
     try clear hfz22_0
     try clear hfz22_1
     try clear hfz24_0
     try clear hfz24_1
     try clear hfz25_0
     try clear hfz25_1
     obtain ⟨kq, x96_43, rfl, HA, HJ43, BK403, BK404, BK405, HB⟩ := hcut
     cases kq with
     | zero => exact absurd HA.out (by simp [platenlaw04_BigdecOrders.j1])
     | succ kj43 =>
      have H := HA.out
      clear HA
      simp only [platenlaw04_BigdecOrders.j1] at H
      by_cases c51 : x96_43 = true
      ·subst c51
       have H1 : (some false) = some r := by rw [if_pos rfl] at H; exact H
       clear H
       have H := H1
       clear H1
       obtain rfl := Option.some.inj H
       go_wp2
       go_ret
       exact ⟨by first | rfl | (simp [errW_none, errW_some] <;> rfl) | (simp [*, errW_none, errW_some] <;> rfl), by repeat (first | (with_reducible first | exact HB.out | apply below_alloc | apply pw_below_drewN | apply below_drew1 | refine below_set ?_ GE403.out | refine below_set ?_ GE404.out | refine below_set ?_ GE405.out) | exact HB.out)⟩
      ·replace c51 := Bool.eq_false_iff.mpr c51
       subst c51
       have H1 : ((bigdec_Add.f kj43 a0_0 a0_1 a2_0 a2_1).bind fun bt418 => ((bigdec_Add.f kj43 a1_0 a1_1 a2_0 a2_1).bind fun bt422 => ((bigdec_Add.f kj43 a2_0 a2_1 a0_0 a0_1).bind fun bt426 => (if bt418.2.2 = 0 then (platenlaw04_BigdecOrders.j2 kj43 t406 bt418.2.2 bt426.2.2 (bt422.2.2 != 0) bt418.1 bt418.2.1 bt422.1 bt422.2.1 bt426.1 bt426.2.1) else (platenlaw04_BigdecOrders.j2 kj43 t406 bt418.2.2 bt426.2.2 true bt418.1 bt418.2.1 bt422.1 bt422.2.1 bt426.1 bt426.2.1))))) = some r := by rw [if_neg (show ¬ (false = true) by decide)] at H; exact H
       clear H
       have H := H1
       clear H1
       replace H := Option.bind_eq_some_iff.mp H
       obtain ⟨⟨t418, t419, t420⟩, A520, H⟩ := H
       replace H : ((bigdec_Add.f kj43 a1_0 a1_1 a2_0 a2_1).bind fun bt422 => ((bigdec_Add.f kj43 a2_0 a2_1 a0_0 a0_1).bind fun bt426 => (if t420 = 0 then (platenlaw04_BigdecOrders.j2 kj43 t406 t420 bt426.2.2 (bt422.2.2 != 0) t418 t419 bt422.1 bt422.2.1 bt426.1 bt426.2.1) else (platenlaw04_BigdecOrders.j2 kj43 t406 t420 bt426.2.2 true t418 t419 bt422.1 bt422.2.1 bt426.1 bt426.2.1)))) = some r := H
       have A52 := Aside0.mk A520
       clear A520
       replace H := Option.bind_eq_some_iff.mp H
       obtain ⟨⟨t422, t423, t424⟩, A530, H⟩ := H
       replace H : ((bigdec_Add.f kj43 a2_0 a2_1 a0_0 a0_1).bind fun bt426 => (if t420 = 0 then (platenlaw04_BigdecOrders.j2 kj43 t406 t420 bt426.2.2 (t424 != 0) t418 t419 t422 t423 bt426.1 bt426.2.1) else (platenlaw04_BigdecOrders.j2 kj43 t406 t420 bt426.2.2 true t418 t419 t422 t423 bt426.1 bt426.2.1))) = some r := H
       have A53 := Aside0.mk A530
       clear A530
       replace H := Option.bind_eq_some_iff.mp H
       obtain ⟨⟨t426, t427, t428⟩, A540, H⟩ := H
       replace H : (if t420 = 0 then (platenlaw04_BigdecOrders.j2 kj43 t406 t420 t428 (t424 != 0) t418 t419 t422 t423 t426 t427) else (platenlaw04_BigdecOrders.j2 kj43 t406 t420 t428 true t418 t419 t422 t423 t426 t427)) = some r := H
       have A54 := Aside0.mk A540
       clear A540
       have HC55 := Aside0.mk H
       clear H
       have hnb56 := NB403_404.out
       have hnc56 := NB404_403.out
       have hnb57 := NB403_405.out
       have hnc57 := NB405_403.out
       have hcz58_0 : wc.cell? ⟨gb403, 0, none⟩ = some (.string a0_0) := (blk_cell BK403.out 0).trans rfl
       have hcz58_1 : wc.cell? ⟨gb403, 1, none⟩ = some (.int .i64 a0_1) := (blk_cell BK403.out 1).trans rfl
       have hfz58_0 := blk_frozen BK403.out 0
       have hfz58_1 := blk_frozen BK403.out 1
       have hnb59 := NB405_404.out
       have hnc59 := NB404_405.out
       have hcz60_0 : wc.cell? ⟨gb405, 0, none⟩ = some (.string a2_0) := (blk_cell BK405.out 0).trans rfl
       have hcz60_1 : wc.cell? ⟨gb405, 1, none⟩ = some (.int .i64 a2_1) := (blk_cell BK405.out 1).trans rfl
       have hfz60_0 := blk_frozen BK405.out 0
       have hfz60_1 := blk_frozen BK405.out 1
       go_upto_region 12 with (first | ((with_reducible refine gate_callee (f := 24) rfl ?_); refine goesL_ (some 100) rfl rfl Tryd.func24 (by kernel_rfl) rfl #[.agg #[.string a0_0, .int .i64 a0_1], .agg #[.string a2_0, .int .i64 a2_1]] rfl (by (try simp only [List.map_toArray, List.map_cons, List.map_nil]); first | done | rfl | (simp only [List.length_drop, List.length_take]; rfl)) ?_; (with_reducible refine (bigdec_Add.calls kj43 a0_0 a0_1 a2_0 a2_1 t418 t419 t420 _ A52.out).mono ?_); rintro e w61 ⟨rfl, hb⟩; refine ⟨_, rfl, ?_⟩; have n0_ := Aside0.mk (blk_below (g := gb403) (o := .cells #[.string a0_0, .int .i64 a0_1] 23 (0, 0)) (by (with_reducible repeat (first | refine blk_drewN ?_ _ | refine blk_drew ?_ | refine blk_alloc ?_ _)); exact BK403.out) hb); have n1_ := Aside0.mk (blk_below (g := gb404) (o := .cells #[.string a1_0, .int .i64 a1_1] 23 (0, 0)) (by (with_reducible repeat (first | refine blk_drewN ?_ _ | refine blk_drew ?_ | refine blk_alloc ?_ _)); exact BK404.out) hb); have n2_ := Aside0.mk (blk_below (g := gb405) (o := .cells #[.string a2_0, .int .i64 a2_1] 23 (0, 0)) (by (with_reducible repeat (first | refine blk_drewN ?_ _ | refine blk_drew ?_ | refine blk_alloc ?_ _)); exact BK405.out) hb); have n3_ := Aside0.mk (below_step (by repeat (first | (with_reducible first | exact HB.out | apply below_alloc | apply pw_below_drewN | apply below_drew1 | refine below_set ?_ GE403.out | refine below_set ?_ GE404.out | refine below_set ?_ GE405.out) | exact HB.out)) hb); clear BK403; clear BK404; clear BK405; clear HB; have BK403 := n0_; have BK404 := n1_; have BK405 := n2_; have HB := n3_; clear n0_ n1_ n2_ n3_; (try clear hb); (try clear hb2); (try clear hk); (try clear hi)) | ((with_reducible refine gate_dst (N := 15) rfl ?_); (try (refine gate_guard (by rfl) ?_; dsimp only)); refine box_event ?hg (N := 15) ?hd (cs := #[.string (⟨#[]⟩ : ByteArray), .int .i64 0]) (t := 23) ?hr ?_; (case hd => rfl); (case hg => rfl); (case hr => first | (go_simp; done) | (go_simp; rfl)); intro gb421 hg w62 hbox hb; have n0_ := Aside0.mk (blk_below (g := gb403) (o := .cells #[.string a0_0, .int .i64 a0_1] 23 (0, 0)) (by (with_reducible repeat (first | refine blk_drewN ?_ _ | refine blk_drew ?_ | refine blk_alloc ?_ _)); exact BK403.out) hb); have n1_ := Aside0.mk (blk_below (g := gb404) (o := .cells #[.string a1_0, .int .i64 a1_1] 23 (0, 0)) (by (with_reducible repeat (first | refine blk_drewN ?_ _ | refine blk_drew ?_ | refine blk_alloc ?_ _)); exact BK404.out) hb); have n2_ := Aside0.mk (blk_below (g := gb405) (o := .cells #[.string a2_0, .int .i64 a2_1] 23 (0, 0)) (by (with_reducible repeat (first | refine blk_drewN ?_ _ | refine blk_drew ?_ | refine blk_alloc ?_ _)); exact BK405.out) hb); have n3_ := Aside0.mk (below_step (by repeat (first | (with_reducible first | exact HB.out | apply below_alloc | apply pw_below_drewN | apply below_drew1 | refine below_set ?_ GE403.out | refine below_set ?_ GE404.out | refine below_set ?_ GE405.out) | exact HB.out)) hb); have n4_ := Aside0.mk (hbox); have n5_ := Aside0.mk ((by rw [hg]; exact (below_size (by repeat (first | (with_reducible first | exact HB.out | apply below_alloc | apply pw_below_drewN | apply below_drew1 | refine below_set ?_ GE403.out | refine below_set ?_ GE404.out | refine below_set ?_ GE405.out) | exact HB.out))) : w.heap.size ≤ gb421)); have n6_ := Aside0.mk ((by rw [hg]; exact (below_size (by repeat (first | (with_reducible first | exact HB.out | apply below_alloc | apply pw_below_drewN | apply below_drew1 | refine below_set ?_ GE403.out | refine below_set ?_ GE404.out | refine below_set ?_ GE405.out) | exact HB.out))) : w.heap.size ≤ gb421)); have n7_ := Aside0.mk ((by rw [hg]; exact Nat.ne_of_lt (blk_lt (g := gb403) (o := .cells #[.string a0_0, .int .i64 a0_1] 23 (0, 0)) (by (with_reducible repeat (first | refine blk_drewN ?_ _ | refine blk_drew ?_ | refine blk_alloc ?_ _)); exact BK403.out)) : gb403 ≠ gb421)); have n8_ := Aside0.mk ((by rw [hg]; exact Nat.ne_of_gt (blk_lt (g := gb403) (o := .cells #[.string a0_0, .int .i64 a0_1] 23 (0, 0)) (by (with_reducible repeat (first | refine blk_drewN ?_ _ | refine blk_drew ?_ | refine blk_alloc ?_ _)); exact BK403.out)) : gb421 ≠ gb403)); have n9_ := Aside0.mk ((by rw [hg]; exact Nat.ne_of_lt (blk_lt (g := gb404) (o := .cells #[.string a1_0, .int .i64 a1_1] 23 (0, 0)) (by (with_reducible repeat (first | refine blk_drewN ?_ _ | refine blk_drew ?_ | refine blk_alloc ?_ _)); exact BK404.out)) : gb404 ≠ gb421)); have n10_ := Aside0.mk ((by rw [hg]; exact Nat.ne_of_gt (blk_lt (g := gb404) (o := .cells #[.string a1_0, .int .i64 a1_1] 23 (0, 0)) (by (with_reducible repeat (first | refine blk_drewN ?_ _ | refine blk_drew ?_ | refine blk_alloc ?_ _)); exact BK404.out)) : gb421 ≠ gb404)); have n11_ := Aside0.mk ((by rw [hg]; exact Nat.ne_of_lt (blk_lt (g := gb405) (o := .cells #[.string a2_0, .int .i64 a2_1] 23 (0, 0)) (by (with_reducible repeat (first | refine blk_drewN ?_ _ | refine blk_drew ?_ | refine blk_alloc ?_ _)); exact BK405.out)) : gb405 ≠ gb421)); have n12_ := Aside0.mk ((by rw [hg]; exact Nat.ne_of_gt (blk_lt (g := gb405) (o := .cells #[.string a2_0, .int .i64 a2_1] 23 (0, 0)) (by (with_reducible repeat (first | refine blk_drewN ?_ _ | refine blk_drew ?_ | refine blk_alloc ?_ _)); exact BK405.out)) : gb421 ≠ gb405)); clear BK403; clear BK404; clear BK405; clear HB; have BK403 := n0_; have BK404 := n1_; have BK405 := n2_; have HB := n3_; have BK421 := n4_; have GW421 := n5_; have GE421 := n6_; have NB403_421 := n7_; have NB421_403 := n8_; have NB404_421 := n9_; have NB421_404 := n10_; have NB405_421 := n11_; have NB421_405 := n12_; clear n0_ n1_ n2_ n3_ n4_ n5_ n6_ n7_ n8_ n9_ n10_ n11_ n12_; clear hb hbox hg; have hnb63 := NB421_403.out; have hnc63 := NB403_421.out; have hnb64 := NB421_404.out; have hnc64 := NB404_421.out; have hnb65 := NB421_405.out; have hnc65 := NB405_421.out; have hcz66_0 : w62.cell? ⟨gb421, 0, none⟩ = some (.string (⟨#[]⟩ : ByteArray)) := (blk_cell BK421.out 0).trans rfl; have hcz66_1 : w62.cell? ⟨gb421, 1, none⟩ = some (.int .i64 0) := (blk_cell BK421.out 1).trans rfl; have hfz66_0 := blk_frozen BK421.out 0; have hfz66_1 := blk_frozen BK421.out 1; have hcz67_0 : w62.cell? ⟨gb404, 0, none⟩ = some (.string a1_0) := (blk_cell BK404.out 0).trans rfl; have hcz67_1 : w62.cell? ⟨gb404, 1, none⟩ = some (.int .i64 a1_1) := (blk_cell BK404.out 1).trans rfl; have hfz67_0 := blk_frozen BK404.out 0; have hfz67_1 := blk_frozen BK404.out 1; have hcz68_0 : w62.cell? ⟨gb405, 0, none⟩ = some (.string a2_0) := (blk_cell BK405.out 0).trans rfl; have hcz68_1 : w62.cell? ⟨gb405, 1, none⟩ = some (.int .i64 a2_1) := (blk_cell BK405.out 1).trans rfl; have hfz68_0 := blk_frozen BK405.out 0; have hfz68_1 := blk_frozen BK405.out 1) | ((with_reducible refine gate_callee (f := 24) rfl ?_); refine goesL_ (some 106) rfl rfl Tryd.func24 (by kernel_rfl) rfl #[.agg #[.string a1_0, .int .i64 a1_1], .agg #[.string a2_0, .int .i64 a2_1]] rfl (by (try simp only [List.map_toArray, List.map_cons, List.map_nil]); first | done | rfl | (simp only [List.length_drop, List.length_take]; rfl)) ?_; (with_reducible refine (bigdec_Add.calls kj43 a1_0 a1_1 a2_0 a2_1 t422 t423 t424 _ A53.out).mono ?_); rintro e w69 ⟨rfl, hb⟩; refine ⟨_, rfl, ?_⟩; have n0_ := Aside0.mk (blk_below (g := gb403) (o := .cells #[.string a0_0, .int .i64 a0_1] 23 (0, 0)) (by (with_reducible repeat (first | refine blk_drewN ?_ _ | refine blk_drew ?_ | refine blk_alloc ?_ _)); refine blk_far ?_ NB403_421.out _; (with_reducible repeat (first | refine blk_drewN ?_ _ | refine blk_drew ?_ | refine blk_alloc ?_ _)); refine blk_far ?_ NB403_421.out _; (with_reducible repeat (first | refine blk_drewN ?_ _ | refine blk_drew ?_ | refine blk_alloc ?_ _)); exact BK403.out) hb); have n1_ := Aside0.mk (blk_below (g := gb404) (o := .cells #[.string a1_0, .int .i64 a1_1] 23 (0, 0)) (by (with_reducible repeat (first | refine blk_drewN ?_ _ | refine blk_drew ?_ | refine blk_alloc ?_ _)); refine blk_far ?_ NB404_421.out _; (with_reducible repeat (first | refine blk_drewN ?_ _ | refine blk_drew ?_ | refine blk_alloc ?_ _)); refine blk_far ?_ NB404_421.out _; (with_reducible repeat (first | refine blk_drewN ?_ _ | refine blk_drew ?_ | refine blk_alloc ?_ _)); exact BK404.out) hb); have n2_ := Aside0.mk (blk_below (g := gb405) (o := .cells #[.string a2_0, .int .i64 a2_1] 23 (0, 0)) (by (with_reducible repeat (first | refine blk_drewN ?_ _ | refine blk_drew ?_ | refine blk_alloc ?_ _)); refine blk_far ?_ NB405_421.out _; (with_reducible repeat (first | refine blk_drewN ?_ _ | refine blk_drew ?_ | refine blk_alloc ?_ _)); refine blk_far ?_ NB405_421.out _; (with_reducible repeat (first | refine blk_drewN ?_ _ | refine blk_drew ?_ | refine blk_alloc ?_ _)); exact BK405.out) hb); have n3_ := Aside0.mk (blk_below (g := gb421) (o := .cells #[.string t418, .int .i64 t419] 23 (0, 0)) (by (with_reducible repeat (first | refine blk_drewN ?_ _ | refine blk_drew ?_ | refine blk_alloc ?_ _)); refine blk_put (cs := #[.string t418, .int .i64 0]) ?_ 1 _ rfl; (with_reducible repeat (first | refine blk_drewN ?_ _ | refine blk_drew ?_ | refine blk_alloc ?_ _)); refine blk_put (cs := #[.string (⟨#[]⟩ : ByteArray), .int .i64 0]) ?_ 0 _ rfl; (with_reducible repeat (first | refine blk_drewN ?_ _ | refine blk_drew ?_ | refine blk_alloc ?_ _)); exact BK421.out) hb); have n4_ := Aside0.mk (below_step (by repeat (first | (with_reducible first | exact HB.out | apply below_alloc | apply pw_below_drewN | apply below_drew1 | refine below_set ?_ GE403.out | refine below_set ?_ GE404.out | refine below_set ?_ GE405.out | refine below_set ?_ GE421.out) | exact HB.out)) hb); clear BK403; clear BK404; clear BK405; clear BK421; clear HB; have BK403 := n0_; have BK404 := n1_; have BK405 := n2_; have BK421 := n3_; have HB := n4_; clear n0_ n1_ n2_ n3_ n4_; (try clear hb); (try clear hb2); (try clear hk); (try clear hi)) | ((with_reducible refine gate_dst (N := 16) rfl ?_); (try (refine gate_guard (by rfl) ?_; dsimp only)); refine box_event ?hg (N := 16) ?hd (cs := #[.string (⟨#[]⟩ : ByteArray), .int .i64 0]) (t := 23) ?hr ?_; (case hd => rfl); (case hg => rfl); (case hr => first | (go_simp; done) | (go_simp; rfl)); intro gb425 hg w70 hbox hb; have n0_ := Aside0.mk (blk_below (g := gb403) (o := .cells #[.string a0_0, .int .i64 a0_1] 23 (0, 0)) (by (with_reducible repeat (first | refine blk_drewN ?_ _ | refine blk_drew ?_ | refine blk_alloc ?_ _)); exact BK403.out) hb); have n1_ := Aside0.mk (blk_below (g := gb404) (o := .cells #[.string a1_0, .int .i64 a1_1] 23 (0, 0)) (by (with_reducible repeat (first | refine blk_drewN ?_ _ | refine blk_drew ?_ | refine blk_alloc ?_ _)); exact BK404.out) hb); have n2_ := Aside0.mk (blk_below (g := gb405) (o := .cells #[.string a2_0, .int .i64 a2_1] 23 (0, 0)) (by (with_reducible repeat (first | refine blk_drewN ?_ _ | refine blk_drew ?_ | refine blk_alloc ?_ _)); exact BK405.out) hb); have n3_ := Aside0.mk (blk_below (g := gb421) (o := .cells #[.string t418, .int .i64 t419] 23 (0, 0)) (by (with_reducible repeat (first | refine blk_drewN ?_ _ | refine blk_drew ?_ | refine blk_alloc ?_ _)); exact BK421.out) hb); have n4_ := Aside0.mk (below_step (by repeat (first | (with_reducible first | exact HB.out | apply below_alloc | apply pw_below_drewN | apply below_drew1 | refine below_set ?_ GE403.out | refine below_set ?_ GE404.out | refine below_set ?_ GE405.out | refine below_set ?_ GE421.out) | exact HB.out)) hb); have n5_ := Aside0.mk (hbox); have n6_ := Aside0.mk ((by rw [hg]; exact (below_size (by repeat (first | (with_reducible first | exact HB.out | apply below_alloc | apply pw_below_drewN | apply below_drew1 | refine below_set ?_ GE403.out | refine below_set ?_ GE404.out | refine below_set ?_ GE405.out | refine below_set ?_ GE421.out) | exact HB.out))) : w.heap.size ≤ gb425)); have n7_ := Aside0.mk ((by rw [hg]; exact (below_size (by repeat (first | (with_reducible first | exact HB.out | apply below_alloc | apply pw_below_drewN | apply below_drew1 | refine below_set ?_ GE403.out | refine below_set ?_ GE404.out | refine below_set ?_ GE405.out | refine below_set ?_ GE421.out) | exact HB.out))) : w.heap.size ≤ gb425)); have n8_ := Aside0.mk ((by rw [hg]; exact Nat.ne_of_lt (blk_lt (g := gb403) (o := .cells #[.string a0_0, .int .i64 a0_1] 23 (0, 0)) (by (with_reducible repeat (first | refine blk_drewN ?_ _ | refine blk_drew ?_ | refine blk_alloc ?_ _)); exact BK403.out)) : gb403 ≠ gb425)); have n9_ := Aside0.mk ((by rw [hg]; exact Nat.ne_of_gt (blk_lt (g := gb403) (o := .cells #[.string a0_0, .int .i64 a0_1] 23 (0, 0)) (by (with_reducible repeat (first | refine blk_drewN ?_ _ | refine blk_drew ?_ | refine blk_alloc ?_ _)); exact BK403.out)) : gb425 ≠ gb403)); have n10_ := Aside0.mk ((by rw [hg]; exact Nat.ne_of_lt (blk_lt (g := gb404) (o := .cells #[.string a1_0, .int .i64 a1_1] 23 (0, 0)) (by (with_reducible repeat (first | refine blk_drewN ?_ _ | refine blk_drew ?_ | refine blk_alloc ?_ _)); exact BK404.out)) : gb404 ≠ gb425)); have n11_ := Aside0.mk ((by rw [hg]; exact Nat.ne_of_gt (blk_lt (g := gb404) (o := .cells #[.string a1_0, .int .i64 a1_1] 23 (0, 0)) (by (with_reducible repeat (first | refine blk_drewN ?_ _ | refine blk_drew ?_ | refine blk_alloc ?_ _)); exact BK404.out)) : gb425 ≠ gb404)); have n12_ := Aside0.mk ((by rw [hg]; exact Nat.ne_of_lt (blk_lt (g := gb405) (o := .cells #[.string a2_0, .int .i64 a2_1] 23 (0, 0)) (by (with_reducible repeat (first | refine blk_drewN ?_ _ | refine blk_drew ?_ | refine blk_alloc ?_ _)); exact BK405.out)) : gb405 ≠ gb425)); have n13_ := Aside0.mk ((by rw [hg]; exact Nat.ne_of_gt (blk_lt (g := gb405) (o := .cells #[.string a2_0, .int .i64 a2_1] 23 (0, 0)) (by (with_reducible repeat (first | refine blk_drewN ?_ _ | refine blk_drew ?_ | refine blk_alloc ?_ _)); exact BK405.out)) : gb425 ≠ gb405)); have n14_ := Aside0.mk ((by rw [hg]; exact Nat.ne_of_lt (blk_lt (g := gb421) (o := .cells #[.string t418, .int .i64 t419] 23 (0, 0)) (by (with_reducible repeat (first | refine blk_drewN ?_ _ | refine blk_drew ?_ | refine blk_alloc ?_ _)); exact BK421.out)) : gb421 ≠ gb425)); have n15_ := Aside0.mk ((by rw [hg]; exact Nat.ne_of_gt (blk_lt (g := gb421) (o := .cells #[.string t418, .int .i64 t419] 23 (0, 0)) (by (with_reducible repeat (first | refine blk_drewN ?_ _ | refine blk_drew ?_ | refine blk_alloc ?_ _)); exact BK421.out)) : gb425 ≠ gb421)); clear BK403; clear BK404; clear BK405; clear BK421; clear HB; have BK403 := n0_; have BK404 := n1_; have BK405 := n2_; have BK421 := n3_; have HB := n4_; have BK425 := n5_; have GW425 := n6_; have GE425 := n7_; have NB403_425 := n8_; have NB425_403 := n9_; have NB404_425 := n10_; have NB425_404 := n11_; have NB405_425 := n12_; have NB425_405 := n13_; have NB421_425 := n14_; have NB425_421 := n15_; clear n0_ n1_ n2_ n3_ n4_ n5_ n6_ n7_ n8_ n9_ n10_ n11_ n12_ n13_ n14_ n15_; clear hb hbox hg; have hnb71 := NB425_403.out; have hnc71 := NB403_425.out; have hnb72 := NB425_404.out; have hnc72 := NB404_425.out; have hnb73 := NB425_405.out; have hnc73 := NB405_425.out; have hnb74 := NB425_421.out; have hnc74 := NB421_425.out; have hcz75_0 : w70.cell? ⟨gb425, 0, none⟩ = some (.string (⟨#[]⟩ : ByteArray)) := (blk_cell BK425.out 0).trans rfl; have hcz75_1 : w70.cell? ⟨gb425, 1, none⟩ = some (.int .i64 0) := (blk_cell BK425.out 1).trans rfl; have hfz75_0 := blk_frozen BK425.out 0; have hfz75_1 := blk_frozen BK425.out 1; have hcz76_0 : w70.cell? ⟨gb405, 0, none⟩ = some (.string a2_0) := (blk_cell BK405.out 0).trans rfl; have hcz76_1 : w70.cell? ⟨gb405, 1, none⟩ = some (.int .i64 a2_1) := (blk_cell BK405.out 1).trans rfl; have hfz76_0 := blk_frozen BK405.out 0; have hfz76_1 := blk_frozen BK405.out 1; have hcz77_0 : w70.cell? ⟨gb403, 0, none⟩ = some (.string a0_0) := (blk_cell BK403.out 0).trans rfl; have hcz77_1 : w70.cell? ⟨gb403, 1, none⟩ = some (.int .i64 a0_1) := (blk_cell BK403.out 1).trans rfl; have hfz77_0 := blk_frozen BK403.out 0; have hfz77_1 := blk_frozen BK403.out 1) | ((with_reducible refine gate_callee (f := 24) rfl ?_); refine goesL_ (some 112) rfl rfl Tryd.func24 (by kernel_rfl) rfl #[.agg #[.string a2_0, .int .i64 a2_1], .agg #[.string a0_0, .int .i64 a0_1]] rfl (by (try simp only [List.map_toArray, List.map_cons, List.map_nil]); first | done | rfl | (simp only [List.length_drop, List.length_take]; rfl)) ?_; (with_reducible refine (bigdec_Add.calls kj43 a2_0 a2_1 a0_0 a0_1 t426 t427 t428 _ A54.out).mono ?_); rintro e w78 ⟨rfl, hb⟩; refine ⟨_, rfl, ?_⟩; have n0_ := Aside0.mk (blk_below (g := gb403) (o := .cells #[.string a0_0, .int .i64 a0_1] 23 (0, 0)) (by (with_reducible repeat (first | refine blk_drewN ?_ _ | refine blk_drew ?_ | refine blk_alloc ?_ _)); refine blk_far ?_ NB403_425.out _; (with_reducible repeat (first | refine blk_drewN ?_ _ | refine blk_drew ?_ | refine blk_alloc ?_ _)); refine blk_far ?_ NB403_425.out _; (with_reducible repeat (first | refine blk_drewN ?_ _ | refine blk_drew ?_ | refine blk_alloc ?_ _)); exact BK403.out) hb); have n1_ := Aside0.mk (blk_below (g := gb404) (o := .cells #[.string a1_0, .int .i64 a1_1] 23 (0, 0)) (by (with_reducible repeat (first | refine blk_drewN ?_ _ | refine blk_drew ?_ | refine blk_alloc ?_ _)); refine blk_far ?_ NB404_425.out _; (with_reducible repeat (first | refine blk_drewN ?_ _ | refine blk_drew ?_ | refine blk_alloc ?_ _)); refine blk_far ?_ NB404_425.out _; (with_reducible repeat (first | refine blk_drewN ?_ _ | refine blk_drew ?_ | refine blk_alloc ?_ _)); exact BK404.out) hb); have n2_ := Aside0.mk (blk_below (g := gb405) (o := .cells #[.string a2_0, .int .i64 a2_1] 23 (0, 0)) (by (with_reducible repeat (first | refine blk_drewN ?_ _ | refine blk_drew ?_ | refine blk_alloc ?_ _)); refine blk_far ?_ NB405_425.out _; (with_reducible repeat (first | refine blk_drewN ?_ _ | refine blk_drew ?_ | refine blk_alloc ?_ _)); refine blk_far ?_ NB405_425.out _; (with_reducible repeat (first | refine blk_drewN ?_ _ | refine blk_drew ?_ | refine blk_alloc ?_ _)); exact BK405.out) hb); have n3_ := Aside0.mk (blk_below (g := gb421) (o := .cells #[.string t418, .int .i64 t419] 23 (0, 0)) (by (with_reducible repeat (first | refine blk_drewN ?_ _ | refine blk_drew ?_ | refine blk_alloc ?_ _)); refine blk_far ?_ NB421_425.out _; (with_reducible repeat (first | refine blk_drewN ?_ _ | refine blk_drew ?_ | refine blk_alloc ?_ _)); refine blk_far ?_ NB421_425.out _; (with_reducible repeat (first | refine blk_drewN ?_ _ | refine blk_drew ?_ | refine blk_alloc ?_ _)); exact BK421.out) hb); have n4_ := Aside0.mk (blk_below (g := gb425) (o := .cells #[.string t422, .int .i64 t423] 23 (0, 0)) (by (with_reducible repeat (first | refine blk_drewN ?_ _ | refine blk_drew ?_ | refine blk_alloc ?_ _)); refine blk_put (cs := #[.string t422, .int .i64 0]) ?_ 1 _ rfl; (with_reducible repeat (first | refine blk_drewN ?_ _ | refine blk_drew ?_ | refine blk_alloc ?_ _)); refine blk_put (cs := #[.string (⟨#[]⟩ : ByteArray), .int .i64 0]) ?_ 0 _ rfl; (with_reducible repeat (first | refine blk_drewN ?_ _ | refine blk_drew ?_ | refine blk_alloc ?_ _)); exact BK425.out) hb); have n5_ := Aside0.mk (below_step (by repeat (first | (with_reducible first | exact HB.out | apply below_alloc | apply pw_below_drewN | apply below_drew1 | refine below_set ?_ GE403.out | refine below_set ?_ GE404.out | refine below_set ?_ GE405.out | refine below_set ?_ GE421.out | refine below_set ?_ GE425.out) | exact HB.out)) hb); clear BK403; clear BK404; clear BK405; clear BK421; clear BK425; clear HB; have BK403 := n0_; have BK404 := n1_; have BK405 := n2_; have BK421 := n3_; have BK425 := n4_; have HB := n5_; clear n0_ n1_ n2_ n3_ n4_ n5_; (try clear hb); (try clear hb2); (try clear hk); (try clear hi)) | ((with_reducible refine gate_dst (N := 17) rfl ?_); (try (refine gate_guard (by rfl) ?_; dsimp only)); refine box_event ?hg (N := 17) ?hd (cs := #[.string (⟨#[]⟩ : ByteArray), .int .i64 0]) (t := 23) ?hr ?_; (case hd => rfl); (case hg => rfl); (case hr => first | (go_simp; done) | (go_simp; rfl)); intro gb429 hg w79 hbox hb; have n0_ := Aside0.mk (blk_below (g := gb403) (o := .cells #[.string a0_0, .int .i64 a0_1] 23 (0, 0)) (by (with_reducible repeat (first | refine blk_drewN ?_ _ | refine blk_drew ?_ | refine blk_alloc ?_ _)); exact BK403.out) hb); have n1_ := Aside0.mk (blk_below (g := gb404) (o := .cells #[.string a1_0, .int .i64 a1_1] 23 (0, 0)) (by (with_reducible repeat (first | refine blk_drewN ?_ _ | refine blk_drew ?_ | refine blk_alloc ?_ _)); exact BK404.out) hb); have n2_ := Aside0.mk (blk_below (g := gb405) (o := .cells #[.string a2_0, .int .i64 a2_1] 23 (0, 0)) (by (with_reducible repeat (first | refine blk_drewN ?_ _ | refine blk_drew ?_ | refine blk_alloc ?_ _)); exact BK405.out) hb); have n3_ := Aside0.mk (blk_below (g := gb421) (o := .cells #[.string t418, .int .i64 t419] 23 (0, 0)) (by (with_reducible repeat (first | refine blk_drewN ?_ _ | refine blk_drew ?_ | refine blk_alloc ?_ _)); exact BK421.out) hb); have n4_ := Aside0.mk (blk_below (g := gb425) (o := .cells #[.string t422, .int .i64 t423] 23 (0, 0)) (by (with_reducible repeat (first | refine blk_drewN ?_ _ | refine blk_drew ?_ | refine blk_alloc ?_ _)); exact BK425.out) hb); have n5_ := Aside0.mk (below_step (by repeat (first | (with_reducible first | exact HB.out | apply below_alloc | apply pw_below_drewN | apply below_drew1 | refine below_set ?_ GE403.out | refine below_set ?_ GE404.out | refine below_set ?_ GE405.out | refine below_set ?_ GE421.out | refine below_set ?_ GE425.out) | exact HB.out)) hb); have n6_ := Aside0.mk (hbox); have n7_ := Aside0.mk ((by rw [hg]; exact (below_size (by repeat (first | (with_reducible first | exact HB.out | apply below_alloc | apply pw_below_drewN | apply below_drew1 | refine below_set ?_ GE403.out | refine below_set ?_ GE404.out | refine below_set ?_ GE405.out | refine below_set ?_ GE421.out | refine below_set ?_ GE425.out) | exact HB.out))) : w.heap.size ≤ gb429)); have n8_ := Aside0.mk ((by rw [hg]; exact (below_size (by repeat (first | (with_reducible first | exact HB.out | apply below_alloc | apply pw_below_drewN | apply below_drew1 | refine below_set ?_ GE403.out | refine below_set ?_ GE404.out | refine below_set ?_ GE405.out | refine below_set ?_ GE421.out | refine below_set ?_ GE425.out) | exact HB.out))) : w.heap.size ≤ gb429)); have n9_ := Aside0.mk ((by rw [hg]; exact Nat.ne_of_lt (blk_lt (g := gb403) (o := .cells #[.string a0_0, .int .i64 a0_1] 23 (0, 0)) (by (with_reducible repeat (first | refine blk_drewN ?_ _ | refine blk_drew ?_ | refine blk_alloc ?_ _)); exact BK403.out)) : gb403 ≠ gb429)); have n10_ := Aside0.mk ((by rw [hg]; exact Nat.ne_of_gt (blk_lt (g := gb403) (o := .cells #[.string a0_0, .int .i64 a0_1] 23 (0, 0)) (by (with_reducible repeat (first | refine blk_drewN ?_ _ | refine blk_drew ?_ | refine blk_alloc ?_ _)); exact BK403.out)) : gb429 ≠ gb403)); have n11_ := Aside0.mk ((by rw [hg]; exact Nat.ne_of_lt (blk_lt (g := gb404) (o := .cells #[.string a1_0, .int .i64 a1_1] 23 (0, 0)) (by (with_reducible repeat (first | refine blk_drewN ?_ _ | refine blk_drew ?_ | refine blk_alloc ?_ _)); exact BK404.out)) : gb404 ≠ gb429)); have n12_ := Aside0.mk ((by rw [hg]; exact Nat.ne_of_gt (blk_lt (g := gb404) (o := .cells #[.string a1_0, .int .i64 a1_1] 23 (0, 0)) (by (with_reducible repeat (first | refine blk_drewN ?_ _ | refine blk_drew ?_ | refine blk_alloc ?_ _)); exact BK404.out)) : gb429 ≠ gb404)); have n13_ := Aside0.mk ((by rw [hg]; exact Nat.ne_of_lt (blk_lt (g := gb405) (o := .cells #[.string a2_0, .int .i64 a2_1] 23 (0, 0)) (by (with_reducible repeat (first | refine blk_drewN ?_ _ | refine blk_drew ?_ | refine blk_alloc ?_ _)); exact BK405.out)) : gb405 ≠ gb429)); have n14_ := Aside0.mk ((by rw [hg]; exact Nat.ne_of_gt (blk_lt (g := gb405) (o := .cells #[.string a2_0, .int .i64 a2_1] 23 (0, 0)) (by (with_reducible repeat (first | refine blk_drewN ?_ _ | refine blk_drew ?_ | refine blk_alloc ?_ _)); exact BK405.out)) : gb429 ≠ gb405)); have n15_ := Aside0.mk ((by rw [hg]; exact Nat.ne_of_lt (blk_lt (g := gb421) (o := .cells #[.string t418, .int .i64 t419] 23 (0, 0)) (by (with_reducible repeat (first | refine blk_drewN ?_ _ | refine blk_drew ?_ | refine blk_alloc ?_ _)); exact BK421.out)) : gb421 ≠ gb429)); have n16_ := Aside0.mk ((by rw [hg]; exact Nat.ne_of_gt (blk_lt (g := gb421) (o := .cells #[.string t418, .int .i64 t419] 23 (0, 0)) (by (with_reducible repeat (first | refine blk_drewN ?_ _ | refine blk_drew ?_ | refine blk_alloc ?_ _)); exact BK421.out)) : gb429 ≠ gb421)); have n17_ := Aside0.mk ((by rw [hg]; exact Nat.ne_of_lt (blk_lt (g := gb425) (o := .cells #[.string t422, .int .i64 t423] 23 (0, 0)) (by (with_reducible repeat (first | refine blk_drewN ?_ _ | refine blk_drew ?_ | refine blk_alloc ?_ _)); exact BK425.out)) : gb425 ≠ gb429)); have n18_ := Aside0.mk ((by rw [hg]; exact Nat.ne_of_gt (blk_lt (g := gb425) (o := .cells #[.string t422, .int .i64 t423] 23 (0, 0)) (by (with_reducible repeat (first | refine blk_drewN ?_ _ | refine blk_drew ?_ | refine blk_alloc ?_ _)); exact BK425.out)) : gb429 ≠ gb425)); clear BK403; clear BK404; clear BK405; clear BK421; clear BK425; clear HB; have BK403 := n0_; have BK404 := n1_; have BK405 := n2_; have BK421 := n3_; have BK425 := n4_; have HB := n5_; have BK429 := n6_; have GW429 := n7_; have GE429 := n8_; have NB403_429 := n9_; have NB429_403 := n10_; have NB404_429 := n11_; have NB429_404 := n12_; have NB405_429 := n13_; have NB429_405 := n14_; have NB421_429 := n15_; have NB429_421 := n16_; have NB425_429 := n17_; have NB429_425 := n18_; clear n0_ n1_ n2_ n3_ n4_ n5_ n6_ n7_ n8_ n9_ n10_ n11_ n12_ n13_ n14_ n15_ n16_ n17_ n18_; clear hb hbox hg; have hnb80 := NB429_403.out; have hnc80 := NB403_429.out; have hnb81 := NB429_404.out; have hnc81 := NB404_429.out; have hnb82 := NB429_405.out; have hnc82 := NB405_429.out; have hnb83 := NB429_421.out; have hnc83 := NB421_429.out; have hnb84 := NB429_425.out; have hnc84 := NB425_429.out; have hcz85_0 : w79.cell? ⟨gb429, 0, none⟩ = some (.string (⟨#[]⟩ : ByteArray)) := (blk_cell BK429.out 0).trans rfl; have hcz85_1 : w79.cell? ⟨gb429, 1, none⟩ = some (.int .i64 0) := (blk_cell BK429.out 1).trans rfl; have hfz85_0 := blk_frozen BK429.out 0; have hfz85_1 := blk_frozen BK429.out 1))
       (try simp only [Act.put, List.setIfInBounds_toArray, List.set_cons_zero, List.set_cons_succ])
       go_cut [120] (fun v120 wc => ∃ (kq : Nat) (x120_54 : Bool), v120 = .bool x120_54 ∧ Aside0 (platenlaw04_BigdecOrders.j2 kq t406 t420 t428 x120_54 t418 t419 t422 t423 t426 t427 = some r) ∧ Aside0 (kq ≤ kj43) ∧ Aside0 (wc.heap[gb403]? = some (.cells #[.string a0_0, .int .i64 a0_1] 23 (0, 0))) ∧ Aside0 (wc.heap[gb404]? = some (.cells #[.string a1_0, .int .i64 a1_1] 23 (0, 0))) ∧ Aside0 (wc.heap[gb405]? = some (.cells #[.string a2_0, .int .i64 a2_1] 23 (0, 0))) ∧ Aside0 (wc.heap[gb421]? = some (.cells #[.string t418, .int .i64 t419] 23 (0, 0))) ∧ Aside0 (wc.heap[gb425]? = some (.cells #[.string t422, .int .i64 t423] 23 (0, 0))) ∧ Aside0 (wc.heap[gb429]? = some (.cells #[.string t426, .int .i64 t427] 23 (0, 0))) ∧ Aside0 (Below w.heap.size w wc))
       case first =>
        have H := HC55.out
        clear HC55
        by_cases c86 : t420 = 0
        ·rw [if_pos c86] at H
         have c86b0 : (t420 == 0) = true := beq_iff_eq.mpr c86
         have c86b1 : (t420 != 0) = false := bne_eq_false_iff_eq.mpr c86
         clear c86
         (first | rw [c86b0] | (simp only [i64_w, i32_w]; rw [c86b0]) | skip)
         have H' := Aside0.mk H
         clear H
         go_wp2
         go_meet
         case rel => exact ⟨_, ((t424 != 0)), (by first | rfl | (simp; done) | (simp [*]; done)), H', ⟨by have := HJ7.out; have := HJ43.out; first | omega | exact Nat.le_refl _⟩, ⟨by (with_reducible repeat (first | refine blk_drewN ?_ _ | refine blk_drew ?_ | refine blk_alloc ?_ _)); refine blk_far ?_ NB403_429.out _; (with_reducible repeat (first | refine blk_drewN ?_ _ | refine blk_drew ?_ | refine blk_alloc ?_ _)); refine blk_far ?_ NB403_429.out _; (with_reducible repeat (first | refine blk_drewN ?_ _ | refine blk_drew ?_ | refine blk_alloc ?_ _)); exact BK403.out⟩, ⟨by (with_reducible repeat (first | refine blk_drewN ?_ _ | refine blk_drew ?_ | refine blk_alloc ?_ _)); refine blk_far ?_ NB404_429.out _; (with_reducible repeat (first | refine blk_drewN ?_ _ | refine blk_drew ?_ | refine blk_alloc ?_ _)); refine blk_far ?_ NB404_429.out _; (with_reducible repeat (first | refine blk_drewN ?_ _ | refine blk_drew ?_ | refine blk_alloc ?_ _)); exact BK404.out⟩, ⟨by (with_reducible repeat (first | refine blk_drewN ?_ _ | refine blk_drew ?_ | refine blk_alloc ?_ _)); refine blk_far ?_ NB405_429.out _; (with_reducible repeat (first | refine blk_drewN ?_ _ | refine blk_drew ?_ | refine blk_alloc ?_ _)); refine blk_far ?_ NB405_429.out _; (with_reducible repeat (first | refine blk_drewN ?_ _ | refine blk_drew ?_ | refine blk_alloc ?_ _)); exact BK405.out⟩, ⟨by (with_reducible repeat (first | refine blk_drewN ?_ _ | refine blk_drew ?_ | refine blk_alloc ?_ _)); refine blk_far ?_ NB421_429.out _; (with_reducible repeat (first | refine blk_drewN ?_ _ | refine blk_drew ?_ | refine blk_alloc ?_ _)); refine blk_far ?_ NB421_429.out _; (with_reducible repeat (first | refine blk_drewN ?_ _ | refine blk_drew ?_ | refine blk_alloc ?_ _)); exact BK421.out⟩, ⟨by (with_reducible repeat (first | refine blk_drewN ?_ _ | refine blk_drew ?_ | refine blk_alloc ?_ _)); refine blk_far ?_ NB425_429.out _; (with_reducible repeat (first | refine blk_drewN ?_ _ | refine blk_drew ?_ | refine blk_alloc ?_ _)); refine blk_far ?_ NB425_429.out _; (with_reducible repeat (first | refine blk_drewN ?_ _ | refine blk_drew ?_ | refine blk_alloc ?_ _)); exact BK425.out⟩, ⟨by (with_reducible repeat (first | refine blk_drewN ?_ _ | refine blk_drew ?_ | refine blk_alloc ?_ _)); refine blk_put (cs := #[.string t426, .int .i64 0]) ?_ 1 _ rfl; (with_reducible repeat (first | refine blk_drewN ?_ _ | refine blk_drew ?_ | refine blk_alloc ?_ _)); refine blk_put (cs := #[.string (⟨#[]⟩ : ByteArray), .int .i64 0]) ?_ 0 _ rfl; (with_reducible repeat (first | refine blk_drewN ?_ _ | refine blk_drew ?_ | refine blk_alloc ?_ _)); exact BK429.out⟩, ⟨by repeat (first | (with_reducible first | exact HB.out | apply below_alloc | apply pw_below_drewN | apply below_drew1 | refine below_set ?_ GE403.out | refine below_set ?_ GE404.out | refine below_set ?_ GE405.out | refine below_set ?_ GE421.out | refine below_set ?_ GE425.out | refine below_set ?_ GE429.out) | exact HB.out)⟩⟩
        ·rw [if_neg c86] at H
         have c86b0 : (t420 == 0) = false := beq_eq_false_iff_ne.mpr c86
         have c86b1 : (t420 != 0) = true := bne_iff_ne.mpr c86
         (first | rw [c86b0] | (simp only [i64_w, i32_w]; rw [c86b0]) | skip)
         have H' := Aside0.mk H
         clear H
         go_wp2
         go_meet
         case rel => exact ⟨_, (true), (by first | rfl | (simp; done) | (simp [*]; done)), H', ⟨by have := HJ7.out; have := HJ43.out; first | omega | exact Nat.le_refl _⟩, ⟨by (with_reducible repeat (first | refine blk_drewN ?_ _ | refine blk_drew ?_ | refine blk_alloc ?_ _)); refine blk_far ?_ NB403_429.out _; (with_reducible repeat (first | refine blk_drewN ?_ _ | refine blk_drew ?_ | refine blk_alloc ?_ _)); refine blk_far ?_ NB403_429.out _; (with_reducible repeat (first | refine blk_drewN ?_ _ | refine blk_drew ?_ | refine blk_alloc ?_ _)); exact BK403.out⟩, ⟨by (with_reducible repeat (first | refine blk_drewN ?_ _ | refine blk_drew ?_ | refine blk_alloc ?_ _)); refine blk_far ?_ NB404_429.out _; (with_reducible repeat (first | refine blk_drewN ?_ _ | refine blk_drew ?_ | refine blk_alloc ?_ _)); refine blk_far ?_ NB404_429.out _; (with_reducible repeat (first | refine blk_drewN ?_ _ | refine blk_drew ?_ | refine blk_alloc ?_ _)); exact BK404.out⟩, ⟨by (with_reducible repeat (first | refine blk_drewN ?_ _ | refine blk_drew ?_ | refine blk_alloc ?_ _)); refine blk_far ?_ NB405_429.out _; (with_reducible repeat (first | refine blk_drewN ?_ _ | refine blk_drew ?_ | refine blk_alloc ?_ _)); refine blk_far ?_ NB405_429.out _; (with_reducible repeat (first | refine blk_drewN ?_ _ | refine blk_drew ?_ | refine blk_alloc ?_ _)); exact BK405.out⟩, ⟨by (with_reducible repeat (first | refine blk_drewN ?_ _ | refine blk_drew ?_ | refine blk_alloc ?_ _)); refine blk_far ?_ NB421_429.out _; (with_reducible repeat (first | refine blk_drewN ?_ _ | refine blk_drew ?_ | refine blk_alloc ?_ _)); refine blk_far ?_ NB421_429.out _; (with_reducible repeat (first | refine blk_drewN ?_ _ | refine blk_drew ?_ | refine blk_alloc ?_ _)); exact BK421.out⟩, ⟨by (with_reducible repeat (first | refine blk_drewN ?_ _ | refine blk_drew ?_ | refine blk_alloc ?_ _)); refine blk_far ?_ NB425_429.out _; (with_reducible repeat (first | refine blk_drewN ?_ _ | refine blk_drew ?_ | refine blk_alloc ?_ _)); refine blk_far ?_ NB425_429.out _; (with_reducible repeat (first | refine blk_drewN ?_ _ | refine blk_drew ?_ | refine blk_alloc ?_ _)); exact BK425.out⟩, ⟨by (with_reducible repeat (first | refine blk_drewN ?_ _ | refine blk_drew ?_ | refine blk_alloc ?_ _)); refine blk_put (cs := #[.string t426, .int .i64 0]) ?_ 1 _ rfl; (with_reducible repeat (first | refine blk_drewN ?_ _ | refine blk_drew ?_ | refine blk_alloc ?_ _)); refine blk_put (cs := #[.string (⟨#[]⟩ : ByteArray), .int .i64 0]) ?_ 0 _ rfl; (with_reducible repeat (first | refine blk_drewN ?_ _ | refine blk_drew ?_ | refine blk_alloc ?_ _)); exact BK429.out⟩, ⟨by repeat (first | (with_reducible first | exact HB.out | apply below_alloc | apply pw_below_drewN | apply below_drew1 | refine below_set ?_ GE403.out | refine below_set ?_ GE404.out | refine below_set ?_ GE405.out | refine below_set ?_ GE421.out | refine below_set ?_ GE425.out | refine below_set ?_ GE429.out) | exact HB.out)⟩⟩
       case rest =>
        clear HC55
        try clear c27
        try clear c27b0
        try clear c27b1
        try clear c28
        try clear c29
        try clear c29b0
        try clear c29b1
        try clear c30
        try clear c30b0
        try clear c30b1
        try clear c33
        try clear c33b0
        try clear c33b1
        try clear c36
        try clear c36b0
        try clear c36b1
        try clear c37
        try clear c37b0
        try clear c37b1
        try clear c38
        try clear c38b0
        try clear c38b1
        try clear c41
        try clear c41b0
        try clear c41b1
        try clear c45
        try clear c45b0
        try clear c45b1
        try clear c46
        try clear c46b0
        try clear c46b1
        try clear c47
        try clear c47b0
        try clear c47b1
        try clear c48
        try clear c48b0
        try clear c49
        try clear c49b0
        try clear c51
        try clear c86
        try clear c86b0
        try clear c86b1
        try clear hcz14_0
        try clear hcz14_1
        try clear hcz16_0
        try clear hcz16_1
        try clear hcz18_0
        try clear hcz18_1
        try clear hcz19_0
        try clear hcz19_1
        try clear hcz21_0
        try clear hcz21_1
        try clear hcz22_0
        try clear hcz22_1
        try clear hcz24_0
        try clear hcz24_1
        try clear hcz25_0
        try clear hcz25_1
        try clear hcz58_0
        try clear hcz58_1
        try clear hcz60_0
        try clear hcz60_1
        try clear hcz66_0
        try clear hcz66_1
        try clear hcz67_0
        try clear hcz67_1
        try clear hcz68_0
        try clear hcz68_1
        try clear hcz75_0
        try clear hcz75_1
        try clear hcz76_0
        try clear hcz76_1
        try clear hcz77_0
        try clear hcz77_1
        try clear hcz85_0
        try clear hcz85_1
        try clear hfz14_0
        try clear hfz14_1
        try clear hfz16_0
        try clear hfz16_1
        try clear hfz18_0
        try clear hfz18_1
        try clear hfz19_0
        try clear hfz19_1
        try clear hfz21_0
        try clear hfz21_1
        try clear hfz22_0
        try clear hfz22_1
        try clear hfz24_0
        try clear hfz24_1
        try clear hfz25_0
        try clear hfz25_1
        try clear hfz58_0
        try clear hfz58_1
        try clear hfz60_0
        try clear hfz60_1
        try clear hfz66_0
        try clear hfz66_1
        try clear hfz67_0
        try clear hfz67_1
        try clear hfz68_0
        try clear hfz68_1
        try clear hfz75_0
        try clear hfz75_1
        try clear hfz76_0
        try clear hfz76_1
        try clear hfz77_0
        try clear hfz77_1
        try clear hfz85_0
        try clear hfz85_1
        obtain ⟨kq, x120_54, rfl, HA, HJ54, BK403, BK404, BK405, BK421, BK425, BK429, HB⟩ := hcut
        cases kq with
        | zero => exact absurd HA.out (by simp [platenlaw04_BigdecOrders.j2])
        | succ kj54 =>
         have H := HA.out
         clear HA
         simp only [platenlaw04_BigdecOrders.j2] at H
         by_cases c87 : x120_54 = true
         ·subst c87
          have H1 : (if t420 = t428 then ((platenlaw04_lives.f kj54).bind fun t430 => (some t430)) else (some false)) = some r := by rw [if_pos rfl] at H; exact H
          clear H
          have H := H1
          clear H1
          by_cases c88 : t420 = t428
          ·rw [if_pos c88] at H
           have c88b0 : (t420 == t428) = true := beq_iff_eq.mpr c88
           have c88b1 : (t420 != t428) = false := bne_eq_false_iff_eq.mpr c88
           clear c88
           replace H := Option.bind_eq_some_iff.mp H
           obtain ⟨t430, A890, H⟩ := H
           replace H : (some t430) = some r := H
           have A89 := Aside0.mk A890
           clear A890
           obtain rfl := Option.some.inj H
           go_wp2_with (first | (go_at_call 15; (with_reducible refine (platenlaw04_lives.calls kj54  t430 _ A89.out).mono ?_); rintro e w90 ⟨rfl, hb⟩; have n0_ := Aside0.mk (blk_below (g := gb403) (o := .cells #[.string a0_0, .int .i64 a0_1] 23 (0, 0)) (by (with_reducible repeat (first | refine blk_drewN ?_ _ | refine blk_drew ?_ | refine blk_alloc ?_ _)); exact BK403.out) hb); have n1_ := Aside0.mk (blk_below (g := gb404) (o := .cells #[.string a1_0, .int .i64 a1_1] 23 (0, 0)) (by (with_reducible repeat (first | refine blk_drewN ?_ _ | refine blk_drew ?_ | refine blk_alloc ?_ _)); exact BK404.out) hb); have n2_ := Aside0.mk (blk_below (g := gb405) (o := .cells #[.string a2_0, .int .i64 a2_1] 23 (0, 0)) (by (with_reducible repeat (first | refine blk_drewN ?_ _ | refine blk_drew ?_ | refine blk_alloc ?_ _)); exact BK405.out) hb); have n3_ := Aside0.mk (blk_below (g := gb421) (o := .cells #[.string t418, .int .i64 t419] 23 (0, 0)) (by (with_reducible repeat (first | refine blk_drewN ?_ _ | refine blk_drew ?_ | refine blk_alloc ?_ _)); exact BK421.out) hb); have n4_ := Aside0.mk (blk_below (g := gb425) (o := .cells #[.string t422, .int .i64 t423] 23 (0, 0)) (by (with_reducible repeat (first | refine blk_drewN ?_ _ | refine blk_drew ?_ | refine blk_alloc ?_ _)); exact BK425.out) hb); have n5_ := Aside0.mk (blk_below (g := gb429) (o := .cells #[.string t426, .int .i64 t427] 23 (0, 0)) (by (with_reducible repeat (first | refine blk_drewN ?_ _ | refine blk_drew ?_ | refine blk_alloc ?_ _)); exact BK429.out) hb); have n6_ := Aside0.mk (below_step (by repeat (first | (with_reducible first | exact HB.out | apply below_alloc | apply pw_below_drewN | apply below_drew1 | refine below_set ?_ GE403.out | refine below_set ?_ GE404.out | refine below_set ?_ GE405.out | refine below_set ?_ GE421.out | refine below_set ?_ GE425.out | refine below_set ?_ GE429.out) | exact HB.out)) hb); clear BK403; clear BK404; clear BK405; clear BK421; clear BK425; clear BK429; clear HB; have BK403 := n0_; have BK404 := n1_; have BK405 := n2_; have BK421 := n3_; have BK425 := n4_; have BK429 := n5_; have HB := n6_; clear n0_ n1_ n2_ n3_ n4_ n5_ n6_; (try clear hb); (try clear hb2); (try clear hk); (try clear hi)))
           go_ret
           exact ⟨by first | rfl | (simp [errW_none, errW_some] <;> rfl) | (simp [*, errW_none, errW_some] <;> rfl), by repeat (first | (with_reducible first | exact HB.out | apply below_alloc | apply pw_below_drewN | apply below_drew1 | refine below_set ?_ GE403.out | refine below_set ?_ GE404.out | refine below_set ?_ GE405.out | refine below_set ?_ GE421.out | refine below_set ?_ GE425.out | refine below_set ?_ GE429.out) | exact HB.out)⟩
          ·rw [if_neg c88] at H
           have c88b0 : (t420 == t428) = false := beq_eq_false_iff_ne.mpr c88
           have c88b1 : (t420 != t428) = true := bne_iff_ne.mpr c88
           obtain rfl := Option.some.inj H
           go_wp2
           go_ret
           exact ⟨by first | rfl | (simp [errW_none, errW_some] <;> rfl) | (simp [*, errW_none, errW_some] <;> rfl), by repeat (first | (with_reducible first | exact HB.out | apply below_alloc | apply pw_below_drewN | apply below_drew1 | refine below_set ?_ GE403.out | refine below_set ?_ GE404.out | refine below_set ?_ GE405.out | refine below_set ?_ GE421.out | refine below_set ?_ GE425.out | refine below_set ?_ GE429.out) | exact HB.out)⟩
         ·replace c87 := Bool.eq_false_iff.mpr c87
          subst c87
          have H1 : ((bigdec_Cmp.f kj54 t418 t419 t422 t423).bind fun bt431 => (if bt431.2 = 0 then (if bt431.1 = t406 then (if (!(t418.toList == t426.toList) || (!(t419 == t427))) = true then (some false) else ((platenlaw04_lives.f kj54).bind fun t433 => (some t433))) else (some false)) else (if (!(t418.toList == t426.toList) || (!(t419 == t427))) = true then (some false) else ((platenlaw04_lives.f kj54).bind fun t434 => (some t434))))) = some r := by rw [if_neg (show ¬ (false = true) by decide)] at H; exact H
          clear H
          have H := H1
          clear H1
          replace H := Option.bind_eq_some_iff.mp H
          obtain ⟨⟨t431, t432⟩, A910, H⟩ := H
          replace H : (if t432 = 0 then (if t431 = t406 then (if (!(t418.toList == t426.toList) || (!(t419 == t427))) = true then (some false) else ((platenlaw04_lives.f kj54).bind fun t433 => (some t433))) else (some false)) else (if (!(t418.toList == t426.toList) || (!(t419 == t427))) = true then (some false) else ((platenlaw04_lives.f kj54).bind fun t434 => (some t434)))) = some r := H
          have A91 := Aside0.mk A910
          clear A910
          by_cases c92 : t432 = 0
          ·rw [if_pos c92] at H
           have c92b0 : (t432 == 0) = true := beq_iff_eq.mpr c92
           have c92b1 : (t432 != 0) = false := bne_eq_false_iff_eq.mpr c92
           clear c92
           by_cases c93 : t431 = t406
           ·rw [if_pos c93] at H
            have c93b0 : (t431 == t406) = true := beq_iff_eq.mpr c93
            have c93b1 : (t431 != t406) = false := bne_eq_false_iff_eq.mpr c93
            clear c93
            by_cases c94 : (!(t418.toList == t426.toList) || (!(t419 == t427))) = true
            ·rw [if_pos c94] at H
             have c94b0 : (!(t418.toList == t426.toList) || (!(t419 == t427))) = true := c94
             clear c94
             obtain rfl := Option.some.inj H
             have hnb95 := NB421_403.out
             have hnc95 := NB403_421.out
             have hnb96 := NB421_404.out
             have hnc96 := NB404_421.out
             have hnb97 := NB421_405.out
             have hnc97 := NB405_421.out
             have hnb98 := NB421_425.out
             have hnc98 := NB425_421.out
             have hnb99 := NB421_429.out
             have hnc99 := NB429_421.out
             have hcz100_0 : wc.cell? ⟨gb421, 0, none⟩ = some (.string t418) := (blk_cell BK421.out 0).trans rfl
             have hcz100_1 : wc.cell? ⟨gb421, 1, none⟩ = some (.int .i64 t419) := (blk_cell BK421.out 1).trans rfl
             have hfz100_0 := blk_frozen BK421.out 0
             have hfz100_1 := blk_frozen BK421.out 1
             have hnb101 := NB425_403.out
             have hnc101 := NB403_425.out
             have hnb102 := NB425_404.out
             have hnc102 := NB404_425.out
             have hnb103 := NB425_405.out
             have hnc103 := NB405_425.out
             have hnb104 := NB425_429.out
             have hnc104 := NB429_425.out
             have hcz105_0 : wc.cell? ⟨gb425, 0, none⟩ = some (.string t422) := (blk_cell BK425.out 0).trans rfl
             have hcz105_1 : wc.cell? ⟨gb425, 1, none⟩ = some (.int .i64 t423) := (blk_cell BK425.out 1).trans rfl
             have hfz105_0 := blk_frozen BK425.out 0
             have hfz105_1 := blk_frozen BK425.out 1
             go_wp2_with (first | ((with_reducible refine gate_callee (f := 22) rfl ?_); refine goesL_ (some 130) rfl rfl Tryd.func22 (by kernel_rfl) rfl #[.agg #[.string t418, .int .i64 t419], .agg #[.string t422, .int .i64 t423]] rfl (by (try simp only [List.map_toArray, List.map_cons, List.map_nil]); first | done | rfl | (simp only [List.length_drop, List.length_take]; rfl)) ?_; (with_reducible refine (bigdec_Cmp.calls kj54 t418 t419 t422 t423 t431 t432 _ A91.out).mono ?_); rintro e w106 ⟨rfl, hb⟩; refine ⟨_, rfl, ?_⟩; have n0_ := Aside0.mk (blk_below (g := gb403) (o := .cells #[.string a0_0, .int .i64 a0_1] 23 (0, 0)) (by (with_reducible repeat (first | refine blk_drewN ?_ _ | refine blk_drew ?_ | refine blk_alloc ?_ _)); exact BK403.out) hb); have n1_ := Aside0.mk (blk_below (g := gb404) (o := .cells #[.string a1_0, .int .i64 a1_1] 23 (0, 0)) (by (with_reducible repeat (first | refine blk_drewN ?_ _ | refine blk_drew ?_ | refine blk_alloc ?_ _)); exact BK404.out) hb); have n2_ := Aside0.mk (blk_below (g := gb405) (o := .cells #[.string a2_0, .int .i64 a2_1] 23 (0, 0)) (by (with_reducible repeat (first | refine blk_drewN ?_ _ | refine blk_drew ?_ | refine blk_alloc ?_ _)); exact BK405.out) hb); have n3_ := Aside0.mk (blk_below (g := gb421) (o := .cells #[.string t418, .int .i64 t419] 23 (0, 0)) (by (with_reducible repeat (first | refine blk_drewN ?_ _ | refine blk_drew ?_ | refine blk_alloc ?_ _)); exact BK421.out) hb); have n4_ := Aside0.mk (blk_below (g := gb425) (o := .cells #[.string t422, .int .i64 t423] 23 (0, 0)) (by (with_reducible repeat (first | refine blk_drewN ?_ _ | refine blk_drew ?_ | refine blk_alloc ?_ _)); exact BK425.out) hb); have n5_ := Aside0.mk (blk_below (g := gb429) (o := .cells #[.string t426, .int .i64 t427] 23 (0, 0)) (by (with_reducible repeat (first | refine blk_drewN ?_ _ | refine blk_drew ?_ | refine blk_alloc ?_ _)); exact BK429.out) hb); have n6_ := Aside0.mk (below_step (by repeat (first | (with_reducible first | exact HB.out | apply below_alloc | apply pw_below_drewN | apply below_drew1 | refine below_set ?_ GE403.out | refine below_set ?_ GE404.out | refine below_set ?_ GE405.out | refine below_set ?_ GE421.out | refine below_set ?_ GE425.out | refine below_set ?_ GE429.out) | exact HB.out)) hb); clear BK403; clear BK404; clear BK405; clear BK421; clear BK425; clear BK429; clear HB; have BK403 := n0_; have BK404 := n1_; have BK405 := n2_; have BK421 := n3_; have BK425 := n4_; have BK429 := n5_; have HB := n6_; clear n0_ n1_ n2_ n3_ n4_ n5_ n6_; (try clear hb); (try clear hb2); (try clear hk); (try clear hi); have hcz107_0 : w106.cell? ⟨gb421, 0, none⟩ = some (.string t418) := (blk_cell BK421.out 0).trans rfl; have hcz107_1 : w106.cell? ⟨gb421, 1, none⟩ = some (.int .i64 t419) := (blk_cell BK421.out 1).trans rfl; have hfz107_0 := blk_frozen BK421.out 0; have hfz107_1 := blk_frozen BK421.out 1; have hnb108 := NB429_403.out; have hnc108 := NB403_429.out; have hnb109 := NB429_404.out; have hnc109 := NB404_429.out; have hnb110 := NB429_405.out; have hnc110 := NB405_429.out; have hcz111_0 : w106.cell? ⟨gb429, 0, none⟩ = some (.string t426) := (blk_cell BK429.out 0).trans rfl; have hcz111_1 : w106.cell? ⟨gb429, 1, none⟩ = some (.int .i64 t427) := (blk_cell BK429.out 1).trans rfl; have hfz111_0 := blk_frozen BK429.out 0; have hfz111_1 := blk_frozen BK429.out 1))
             go_ret
             exact ⟨by first | rfl | (simp [errW_none, errW_some] <;> rfl) | (simp [*, errW_none, errW_some] <;> rfl), by repeat (first | (with_reducible first | exact HB.out | apply below_alloc | apply pw_below_drewN | apply below_drew1 | refine below_set ?_ GE403.out | refine below_set ?_ GE404.out | refine below_set ?_ GE405.out | refine below_set ?_ GE421.out | refine below_set ?_ GE425.out | refine below_set ?_ GE429.out) | exact HB.out)⟩
            ·rw [if_neg c94] at H
             have c94b0 : (!(t418.toList == t426.toList) || (!(t419 == t427))) = false := by simpa using c94
             clear c94
             replace H := Option.bind_eq_some_iff.mp H
             obtain ⟨t433, A1120, H⟩ := H
             replace H : (some t433) = some r := H
             have A112 := Aside0.mk A1120
             clear A1120
             obtain rfl := Option.some.inj H
             have hnb113 := NB421_403.out
             have hnc113 := NB403_421.out
             have hnb114 := NB421_404.out
             have hnc114 := NB404_421.out
             have hnb115 := NB421_405.out
             have hnc115 := NB405_421.out
             have hnb116 := NB421_425.out
             have hnc116 := NB425_421.out
             have hnb117 := NB421_429.out
             have hnc117 := NB429_421.out
             have hcz118_0 : wc.cell? ⟨gb421, 0, none⟩ = some (.string t418) := (blk_cell BK421.out 0).trans rfl
             have hcz118_1 : wc.cell? ⟨gb421, 1, none⟩ = some (.int .i64 t419) := (blk_cell BK421.out 1).trans rfl
             have hfz118_0 := blk_frozen BK421.out 0
             have hfz118_1 := blk_frozen BK421.out 1
             have hnb119 := NB425_403.out
             have hnc119 := NB403_425.out
             have hnb120 := NB425_404.out
             have hnc120 := NB404_425.out
             have hnb121 := NB425_405.out
             have hnc121 := NB405_425.out
             have hnb122 := NB425_429.out
             have hnc122 := NB429_425.out
             have hcz123_0 : wc.cell? ⟨gb425, 0, none⟩ = some (.string t422) := (blk_cell BK425.out 0).trans rfl
             have hcz123_1 : wc.cell? ⟨gb425, 1, none⟩ = some (.int .i64 t423) := (blk_cell BK425.out 1).trans rfl
             have hfz123_0 := blk_frozen BK425.out 0
             have hfz123_1 := blk_frozen BK425.out 1
             go_wp2_with (first | ((with_reducible refine gate_callee (f := 22) rfl ?_); refine goesL_ (some 130) rfl rfl Tryd.func22 (by kernel_rfl) rfl #[.agg #[.string t418, .int .i64 t419], .agg #[.string t422, .int .i64 t423]] rfl (by (try simp only [List.map_toArray, List.map_cons, List.map_nil]); first | done | rfl | (simp only [List.length_drop, List.length_take]; rfl)) ?_; (with_reducible refine (bigdec_Cmp.calls kj54 t418 t419 t422 t423 t431 t432 _ A91.out).mono ?_); rintro e w124 ⟨rfl, hb⟩; refine ⟨_, rfl, ?_⟩; have n0_ := Aside0.mk (blk_below (g := gb403) (o := .cells #[.string a0_0, .int .i64 a0_1] 23 (0, 0)) (by (with_reducible repeat (first | refine blk_drewN ?_ _ | refine blk_drew ?_ | refine blk_alloc ?_ _)); exact BK403.out) hb); have n1_ := Aside0.mk (blk_below (g := gb404) (o := .cells #[.string a1_0, .int .i64 a1_1] 23 (0, 0)) (by (with_reducible repeat (first | refine blk_drewN ?_ _ | refine blk_drew ?_ | refine blk_alloc ?_ _)); exact BK404.out) hb); have n2_ := Aside0.mk (blk_below (g := gb405) (o := .cells #[.string a2_0, .int .i64 a2_1] 23 (0, 0)) (by (with_reducible repeat (first | refine blk_drewN ?_ _ | refine blk_drew ?_ | refine blk_alloc ?_ _)); exact BK405.out) hb); have n3_ := Aside0.mk (blk_below (g := gb421) (o := .cells #[.string t418, .int .i64 t419] 23 (0, 0)) (by (with_reducible repeat (first | refine blk_drewN ?_ _ | refine blk_drew ?_ | refine blk_alloc ?_ _)); exact BK421.out) hb); have n4_ := Aside0.mk (blk_below (g := gb425) (o := .cells #[.string t422, .int .i64 t423] 23 (0, 0)) (by (with_reducible repeat (first | refine blk_drewN ?_ _ | refine blk_drew ?_ | refine blk_alloc ?_ _)); exact BK425.out) hb); have n5_ := Aside0.mk (blk_below (g := gb429) (o := .cells #[.string t426, .int .i64 t427] 23 (0, 0)) (by (with_reducible repeat (first | refine blk_drewN ?_ _ | refine blk_drew ?_ | refine blk_alloc ?_ _)); exact BK429.out) hb); have n6_ := Aside0.mk (below_step (by repeat (first | (with_reducible first | exact HB.out | apply below_alloc | apply pw_below_drewN | apply below_drew1 | refine below_set ?_ GE403.out | refine below_set ?_ GE404.out | refine below_set ?_ GE405.out | refine below_set ?_ GE421.out | refine below_set ?_ GE425.out | refine below_set ?_ GE429.out) | exact HB.out)) hb); clear BK403; clear BK404; clear BK405; clear BK421; clear BK425; clear BK429; clear HB; have BK403 := n0_; have BK404 := n1_; have BK405 := n2_; have BK421 := n3_; have BK425 := n4_; have BK429 := n5_; have HB := n6_; clear n0_ n1_ n2_ n3_ n4_ n5_ n6_; (try clear hb); (try clear hb2); (try clear hk); (try clear hi); have hcz125_0 : w124.cell? ⟨gb421, 0, none⟩ = some (.string t418) := (blk_cell BK421.out 0).trans rfl; have hcz125_1 : w124.cell? ⟨gb421, 1, none⟩ = some (.int .i64 t419) := (blk_cell BK421.out 1).trans rfl; have hfz125_0 := blk_frozen BK421.out 0; have hfz125_1 := blk_frozen BK421.out 1; have hnb126 := NB429_403.out; have hnc126 := NB403_429.out; have hnb127 := NB429_404.out; have hnc127 := NB404_429.out; have hnb128 := NB429_405.out; have hnc128 := NB405_429.out; have hcz129_0 : w124.cell? ⟨gb429, 0, none⟩ = some (.string t426) := (blk_cell BK429.out 0).trans rfl; have hcz129_1 : w124.cell? ⟨gb429, 1, none⟩ = some (.int .i64 t427) := (blk_cell BK429.out 1).trans rfl; have hfz129_0 := blk_frozen BK429.out 0; have hfz129_1 := blk_frozen BK429.out 1) | ((with_reducible refine gate_callee (f := 15) rfl ?_); refine goesL_ (some 145) rfl rfl Tryd.func15 (by kernel_rfl) rfl #[] rfl (by (try simp only [List.map_toArray, List.map_cons, List.map_nil]); first | done | rfl | (simp only [List.length_drop, List.length_take]; rfl)) ?_; (with_reducible refine (platenlaw04_lives.calls kj54  t433 _ A112.out).mono ?_); rintro e w130 ⟨rfl, hb⟩; refine ⟨_, rfl, ?_⟩; have n0_ := Aside0.mk (blk_below (g := gb403) (o := .cells #[.string a0_0, .int .i64 a0_1] 23 (0, 0)) (by (with_reducible repeat (first | refine blk_drewN ?_ _ | refine blk_drew ?_ | refine blk_alloc ?_ _)); exact BK403.out) hb); have n1_ := Aside0.mk (blk_below (g := gb404) (o := .cells #[.string a1_0, .int .i64 a1_1] 23 (0, 0)) (by (with_reducible repeat (first | refine blk_drewN ?_ _ | refine blk_drew ?_ | refine blk_alloc ?_ _)); exact BK404.out) hb); have n2_ := Aside0.mk (blk_below (g := gb405) (o := .cells #[.string a2_0, .int .i64 a2_1] 23 (0, 0)) (by (with_reducible repeat (first | refine blk_drewN ?_ _ | refine blk_drew ?_ | refine blk_alloc ?_ _)); exact BK405.out) hb); have n3_ := Aside0.mk (blk_below (g := gb421) (o := .cells #[.string t418, .int .i64 t419] 23 (0, 0)) (by (with_reducible repeat (first | refine blk_drewN ?_ _ | refine blk_drew ?_ | refine blk_alloc ?_ _)); exact BK421.out) hb); have n4_ := Aside0.mk (blk_below (g := gb425) (o := .cells #[.string t422, .int .i64 t423] 23 (0, 0)) (by (with_reducible repeat (first | refine blk_drewN ?_ _ | refine blk_drew ?_ | refine blk_alloc ?_ _)); exact BK425.out) hb); have n5_ := Aside0.mk (blk_below (g := gb429) (o := .cells #[.string t426, .int .i64 t427] 23 (0, 0)) (by (with_reducible repeat (first | refine blk_drewN ?_ _ | refine blk_drew ?_ | refine blk_alloc ?_ _)); exact BK429.out) hb); have n6_ := Aside0.mk (below_step (by repeat (first | (with_reducible first | exact HB.out | apply below_alloc | apply pw_below_drewN | apply below_drew1 | refine below_set ?_ GE403.out | refine below_set ?_ GE404.out | refine below_set ?_ GE405.out | refine below_set ?_ GE421.out | refine below_set ?_ GE425.out | refine below_set ?_ GE429.out) | exact HB.out)) hb); clear BK403; clear BK404; clear BK405; clear BK421; clear BK425; clear BK429; clear HB; have BK403 := n0_; have BK404 := n1_; have BK405 := n2_; have BK421 := n3_; have BK425 := n4_; have BK429 := n5_; have HB := n6_; clear n0_ n1_ n2_ n3_ n4_ n5_ n6_; (try clear hb); (try clear hb2); (try clear hk); (try clear hi)))
             go_ret
             exact ⟨by first | rfl | (simp [errW_none, errW_some] <;> rfl) | (simp [*, errW_none, errW_some] <;> rfl), by repeat (first | (with_reducible first | exact HB.out | apply below_alloc | apply pw_below_drewN | apply below_drew1 | refine below_set ?_ GE403.out | refine below_set ?_ GE404.out | refine below_set ?_ GE405.out | refine below_set ?_ GE421.out | refine below_set ?_ GE425.out | refine below_set ?_ GE429.out) | exact HB.out)⟩
           ·rw [if_neg c93] at H
            have c93b0 : (t431 == t406) = false := beq_eq_false_iff_ne.mpr c93
            have c93b1 : (t431 != t406) = true := bne_iff_ne.mpr c93
            obtain rfl := Option.some.inj H
            have hnb131 := NB421_403.out
            have hnc131 := NB403_421.out
            have hnb132 := NB421_404.out
            have hnc132 := NB404_421.out
            have hnb133 := NB421_405.out
            have hnc133 := NB405_421.out
            have hnb134 := NB421_425.out
            have hnc134 := NB425_421.out
            have hnb135 := NB421_429.out
            have hnc135 := NB429_421.out
            have hcz136_0 : wc.cell? ⟨gb421, 0, none⟩ = some (.string t418) := (blk_cell BK421.out 0).trans rfl
            have hcz136_1 : wc.cell? ⟨gb421, 1, none⟩ = some (.int .i64 t419) := (blk_cell BK421.out 1).trans rfl
            have hfz136_0 := blk_frozen BK421.out 0
            have hfz136_1 := blk_frozen BK421.out 1
            have hnb137 := NB425_403.out
            have hnc137 := NB403_425.out
            have hnb138 := NB425_404.out
            have hnc138 := NB404_425.out
            have hnb139 := NB425_405.out
            have hnc139 := NB405_425.out
            have hnb140 := NB425_429.out
            have hnc140 := NB429_425.out
            have hcz141_0 : wc.cell? ⟨gb425, 0, none⟩ = some (.string t422) := (blk_cell BK425.out 0).trans rfl
            have hcz141_1 : wc.cell? ⟨gb425, 1, none⟩ = some (.int .i64 t423) := (blk_cell BK425.out 1).trans rfl
            have hfz141_0 := blk_frozen BK425.out 0
            have hfz141_1 := blk_frozen BK425.out 1
            go_wp2_with (first | ((with_reducible refine gate_callee (f := 22) rfl ?_); refine goesL_ (some 130) rfl rfl Tryd.func22 (by kernel_rfl) rfl #[.agg #[.string t418, .int .i64 t419], .agg #[.string t422, .int .i64 t423]] rfl (by (try simp only [List.map_toArray, List.map_cons, List.map_nil]); first | done | rfl | (simp only [List.length_drop, List.length_take]; rfl)) ?_; (with_reducible refine (bigdec_Cmp.calls kj54 t418 t419 t422 t423 t431 t432 _ A91.out).mono ?_); rintro e w142 ⟨rfl, hb⟩; refine ⟨_, rfl, ?_⟩; have n0_ := Aside0.mk (blk_below (g := gb403) (o := .cells #[.string a0_0, .int .i64 a0_1] 23 (0, 0)) (by (with_reducible repeat (first | refine blk_drewN ?_ _ | refine blk_drew ?_ | refine blk_alloc ?_ _)); exact BK403.out) hb); have n1_ := Aside0.mk (blk_below (g := gb404) (o := .cells #[.string a1_0, .int .i64 a1_1] 23 (0, 0)) (by (with_reducible repeat (first | refine blk_drewN ?_ _ | refine blk_drew ?_ | refine blk_alloc ?_ _)); exact BK404.out) hb); have n2_ := Aside0.mk (blk_below (g := gb405) (o := .cells #[.string a2_0, .int .i64 a2_1] 23 (0, 0)) (by (with_reducible repeat (first | refine blk_drewN ?_ _ | refine blk_drew ?_ | refine blk_alloc ?_ _)); exact BK405.out) hb); have n3_ := Aside0.mk (blk_below (g := gb421) (o := .cells #[.string t418, .int .i64 t419] 23 (0, 0)) (by (with_reducible repeat (first | refine blk_drewN ?_ _ | refine blk_drew ?_ | refine blk_alloc ?_ _)); exact BK421.out) hb); have n4_ := Aside0.mk (blk_below (g := gb425) (o := .cells #[.string t422, .int .i64 t423] 23 (0, 0)) (by (with_reducible repeat (first | refine blk_drewN ?_ _ | refine blk_drew ?_ | refine blk_alloc ?_ _)); exact BK425.out) hb); have n5_ := Aside0.mk (blk_below (g := gb429) (o := .cells #[.string t426, .int .i64 t427] 23 (0, 0)) (by (with_reducible repeat (first | refine blk_drewN ?_ _ | refine blk_drew ?_ | refine blk_alloc ?_ _)); exact BK429.out) hb); have n6_ := Aside0.mk (below_step (by repeat (first | (with_reducible first | exact HB.out | apply below_alloc | apply pw_below_drewN | apply below_drew1 | refine below_set ?_ GE403.out | refine below_set ?_ GE404.out | refine below_set ?_ GE405.out | refine below_set ?_ GE421.out | refine below_set ?_ GE425.out | refine below_set ?_ GE429.out) | exact HB.out)) hb); clear BK403; clear BK404; clear BK405; clear BK421; clear BK425; clear BK429; clear HB; have BK403 := n0_; have BK404 := n1_; have BK405 := n2_; have BK421 := n3_; have BK425 := n4_; have BK429 := n5_; have HB := n6_; clear n0_ n1_ n2_ n3_ n4_ n5_ n6_; (try clear hb); (try clear hb2); (try clear hk); (try clear hi)))
            go_ret
            exact ⟨by first | rfl | (simp [errW_none, errW_some] <;> rfl) | (simp [*, errW_none, errW_some] <;> rfl), by repeat (first | (with_reducible first | exact HB.out | apply below_alloc | apply pw_below_drewN | apply below_drew1 | refine below_set ?_ GE403.out | refine below_set ?_ GE404.out | refine below_set ?_ GE405.out | refine below_set ?_ GE421.out | refine below_set ?_ GE425.out | refine below_set ?_ GE429.out) | exact HB.out)⟩
          ·rw [if_neg c92] at H
           have c92b0 : (t432 == 0) = false := beq_eq_false_iff_ne.mpr c92
           have c92b1 : (t432 != 0) = true := bne_iff_ne.mpr c92
           by_cases c143 : (!(t418.toList == t426.toList) || (!(t419 == t427))) = true
           ·rw [if_pos c143] at H
            have c143b0 : (!(t418.toList == t426.toList) || (!(t419 == t427))) = true := c143
            clear c143
            obtain rfl := Option.some.inj H
            have hnb144 := NB421_403.out
            have hnc144 := NB403_421.out
            have hnb145 := NB421_404.out
            have hnc145 := NB404_421.out
            have hnb146 := NB421_405.out
            have hnc146 := NB405_421.out
            have hnb147 := NB421_425.out
            have hnc147 := NB425_421.out
            have hnb148 := NB421_429.out
            have hnc148 := NB429_421.out
            have hcz149_0 : wc.cell? ⟨gb421, 0, none⟩ = some (.string t418) := (blk_cell BK421.out 0).trans rfl
            have hcz149_1 : wc.cell? ⟨gb421, 1, none⟩ = some (.int .i64 t419) := (blk_cell BK421.out 1).trans rfl
            have hfz149_0 := blk_frozen BK421.out 0
            have hfz149_1 := blk_frozen BK421.out 1
            have hnb150 := NB425_403.out
            have hnc150 := NB403_425.out
            have hnb151 := NB425_404.out
            have hnc151 := NB404_425.out
            have hnb152 := NB425_405.out
            have hnc152 := NB405_425.out
            have hnb153 := NB425_429.out
            have hnc153 := NB429_425.out
            have hcz154_0 : wc.cell? ⟨gb425, 0, none⟩ = some (.string t422) := (blk_cell BK425.out 0).trans rfl
            have hcz154_1 : wc.cell? ⟨gb425, 1, none⟩ = some (.int .i64 t423) := (blk_cell BK425.out 1).trans rfl
            have hfz154_0 := blk_frozen BK425.out 0
            have hfz154_1 := blk_frozen BK425.out 1
            go_wp2_with (first | ((with_reducible refine gate_callee (f := 22) rfl ?_); refine goesL_ (some 130) rfl rfl Tryd.func22 (by kernel_rfl) rfl #[.agg #[.string t418, .int .i64 t419], .agg #[.string t422, .int .i64 t423]] rfl (by (try simp only [List.map_toArray, List.map_cons, List.map_nil]); first | done | rfl | (simp only [List.length_drop, List.length_take]; rfl)) ?_; (with_reducible refine (bigdec_Cmp.calls kj54 t418 t419 t422 t423 t431 t432 _ A91.out).mono ?_); rintro e w155 ⟨rfl, hb⟩; refine ⟨_, rfl, ?_⟩; have n0_ := Aside0.mk (blk_below (g := gb403) (o := .cells #[.string a0_0, .int .i64 a0_1] 23 (0, 0)) (by (with_reducible repeat (first | refine blk_drewN ?_ _ | refine blk_drew ?_ | refine blk_alloc ?_ _)); exact BK403.out) hb); have n1_ := Aside0.mk (blk_below (g := gb404) (o := .cells #[.string a1_0, .int .i64 a1_1] 23 (0, 0)) (by (with_reducible repeat (first | refine blk_drewN ?_ _ | refine blk_drew ?_ | refine blk_alloc ?_ _)); exact BK404.out) hb); have n2_ := Aside0.mk (blk_below (g := gb405) (o := .cells #[.string a2_0, .int .i64 a2_1] 23 (0, 0)) (by (with_reducible repeat (first | refine blk_drewN ?_ _ | refine blk_drew ?_ | refine blk_alloc ?_ _)); exact BK405.out) hb); have n3_ := Aside0.mk (blk_below (g := gb421) (o := .cells #[.string t418, .int .i64 t419] 23 (0, 0)) (by (with_reducible repeat (first | refine blk_drewN ?_ _ | refine blk_drew ?_ | refine blk_alloc ?_ _)); exact BK421.out) hb); have n4_ := Aside0.mk (blk_below (g := gb425) (o := .cells #[.string t422, .int .i64 t423] 23 (0, 0)) (by (with_reducible repeat (first | refine blk_drewN ?_ _ | refine blk_drew ?_ | refine blk_alloc ?_ _)); exact BK425.out) hb); have n5_ := Aside0.mk (blk_below (g := gb429) (o := .cells #[.string t426, .int .i64 t427] 23 (0, 0)) (by (with_reducible repeat (first | refine blk_drewN ?_ _ | refine blk_drew ?_ | refine blk_alloc ?_ _)); exact BK429.out) hb); have n6_ := Aside0.mk (below_step (by repeat (first | (with_reducible first | exact HB.out | apply below_alloc | apply pw_below_drewN | apply below_drew1 | refine below_set ?_ GE403.out | refine below_set ?_ GE404.out | refine below_set ?_ GE405.out | refine below_set ?_ GE421.out | refine below_set ?_ GE425.out | refine below_set ?_ GE429.out) | exact HB.out)) hb); clear BK403; clear BK404; clear BK405; clear BK421; clear BK425; clear BK429; clear HB; have BK403 := n0_; have BK404 := n1_; have BK405 := n2_; have BK421 := n3_; have BK425 := n4_; have BK429 := n5_; have HB := n6_; clear n0_ n1_ n2_ n3_ n4_ n5_ n6_; (try clear hb); (try clear hb2); (try clear hk); (try clear hi); have hcz156_0 : w155.cell? ⟨gb421, 0, none⟩ = some (.string t418) := (blk_cell BK421.out 0).trans rfl; have hcz156_1 : w155.cell? ⟨gb421, 1, none⟩ = some (.int .i64 t419) := (blk_cell BK421.out 1).trans rfl; have hfz156_0 := blk_frozen BK421.out 0; have hfz156_1 := blk_frozen BK421.out 1; have hnb157 := NB429_403.out; have hnc157 := NB403_429.out; have hnb158 := NB429_404.out; have hnc158 := NB404_429.out; have hnb159 := NB429_405.out; have hnc159 := NB405_429.out; have hcz160_0 : w155.cell? ⟨gb429, 0, none⟩ = some (.string t426) := (blk_cell BK429.out 0).trans rfl; have hcz160_1 : w155.cell? ⟨gb429, 1, none⟩ = some (.int .i64 t427) := (blk_cell BK429.out 1).trans rfl; have hfz160_0 := blk_frozen BK429.out 0; have hfz160_1 := blk_frozen BK429.out 1))
            go_ret
            exact ⟨by first | rfl | (simp [errW_none, errW_some] <;> rfl) | (simp [*, errW_none, errW_some] <;> rfl), by repeat (first | (with_reducible first | exact HB.out | apply below_alloc | apply pw_below_drewN | apply below_drew1 | refine below_set ?_ GE403.out | refine below_set ?_ GE404.out | refine below_set ?_ GE405.out | refine below_set ?_ GE421.out | refine below_set ?_ GE425.out | refine below_set ?_ GE429.out) | exact HB.out)⟩
           ·rw [if_neg c143] at H
            have c143b0 : (!(t418.toList == t426.toList) || (!(t419 == t427))) = false := by simpa using c143
            clear c143
            replace H := Option.bind_eq_some_iff.mp H
            obtain ⟨t434, A1610, H⟩ := H
            replace H : (some t434) = some r := H
            have A161 := Aside0.mk A1610
            clear A1610
            obtain rfl := Option.some.inj H
            have hnb162 := NB421_403.out
            have hnc162 := NB403_421.out
            have hnb163 := NB421_404.out
            have hnc163 := NB404_421.out
            have hnb164 := NB421_405.out
            have hnc164 := NB405_421.out
            have hnb165 := NB421_425.out
            have hnc165 := NB425_421.out
            have hnb166 := NB421_429.out
            have hnc166 := NB429_421.out
            have hcz167_0 : wc.cell? ⟨gb421, 0, none⟩ = some (.string t418) := (blk_cell BK421.out 0).trans rfl
            have hcz167_1 : wc.cell? ⟨gb421, 1, none⟩ = some (.int .i64 t419) := (blk_cell BK421.out 1).trans rfl
            have hfz167_0 := blk_frozen BK421.out 0
            have hfz167_1 := blk_frozen BK421.out 1
            have hnb168 := NB425_403.out
            have hnc168 := NB403_425.out
            have hnb169 := NB425_404.out
            have hnc169 := NB404_425.out
            have hnb170 := NB425_405.out
            have hnc170 := NB405_425.out
            have hnb171 := NB425_429.out
            have hnc171 := NB429_425.out
            have hcz172_0 : wc.cell? ⟨gb425, 0, none⟩ = some (.string t422) := (blk_cell BK425.out 0).trans rfl
            have hcz172_1 : wc.cell? ⟨gb425, 1, none⟩ = some (.int .i64 t423) := (blk_cell BK425.out 1).trans rfl
            have hfz172_0 := blk_frozen BK425.out 0
            have hfz172_1 := blk_frozen BK425.out 1
            go_wp2_with (first | ((with_reducible refine gate_callee (f := 22) rfl ?_); refine goesL_ (some 130) rfl rfl Tryd.func22 (by kernel_rfl) rfl #[.agg #[.string t418, .int .i64 t419], .agg #[.string t422, .int .i64 t423]] rfl (by (try simp only [List.map_toArray, List.map_cons, List.map_nil]); first | done | rfl | (simp only [List.length_drop, List.length_take]; rfl)) ?_; (with_reducible refine (bigdec_Cmp.calls kj54 t418 t419 t422 t423 t431 t432 _ A91.out).mono ?_); rintro e w173 ⟨rfl, hb⟩; refine ⟨_, rfl, ?_⟩; have n0_ := Aside0.mk (blk_below (g := gb403) (o := .cells #[.string a0_0, .int .i64 a0_1] 23 (0, 0)) (by (with_reducible repeat (first | refine blk_drewN ?_ _ | refine blk_drew ?_ | refine blk_alloc ?_ _)); exact BK403.out) hb); have n1_ := Aside0.mk (blk_below (g := gb404) (o := .cells #[.string a1_0, .int .i64 a1_1] 23 (0, 0)) (by (with_reducible repeat (first | refine blk_drewN ?_ _ | refine blk_drew ?_ | refine blk_alloc ?_ _)); exact BK404.out) hb); have n2_ := Aside0.mk (blk_below (g := gb405) (o := .cells #[.string a2_0, .int .i64 a2_1] 23 (0, 0)) (by (with_reducible repeat (first | refine blk_drewN ?_ _ | refine blk_drew ?_ | refine blk_alloc ?_ _)); exact BK405.out) hb); have n3_ := Aside0.mk (blk_below (g := gb421) (o := .cells #[.string t418, .int .i64 t419] 23 (0, 0)) (by (with_reducible repeat (first | refine blk_drewN ?_ _ | refine blk_drew ?_ | refine blk_alloc ?_ _)); exact BK421.out) hb); have n4_ := Aside0.mk (blk_below (g := gb425) (o := .cells #[.string t422, .int .i64 t423] 23 (0, 0)) (by (with_reducible repeat (first | refine blk_drewN ?_ _ | refine blk_drew ?_ | refine blk_alloc ?_ _)); exact BK425.out) hb); have n5_ := Aside0.mk (blk_below (g := gb429) (o := .cells #[.string t426, .int .i64 t427] 23 (0, 0)) (by (with_reducible repeat (first | refine blk_drewN ?_ _ | refine blk_drew ?_ | refine blk_alloc ?_ _)); exact BK429.out) hb); have n6_ := Aside0.mk (below_step (by repeat (first | (with_reducible first | exact HB.out | apply below_alloc | apply pw_below_drewN | apply below_drew1 | refine below_set ?_ GE403.out | refine below_set ?_ GE404.out | refine below_set ?_ GE405.out | refine below_set ?_ GE421.out | refine below_set ?_ GE425.out | refine below_set ?_ GE429.out) | exact HB.out)) hb); clear BK403; clear BK404; clear BK405; clear BK421; clear BK425; clear BK429; clear HB; have BK403 := n0_; have BK404 := n1_; have BK405 := n2_; have BK421 := n3_; have BK425 := n4_; have BK429 := n5_; have HB := n6_; clear n0_ n1_ n2_ n3_ n4_ n5_ n6_; (try clear hb); (try clear hb2); (try clear hk); (try clear hi); have hcz174_0 : w173.cell? ⟨gb421, 0, none⟩ = some (.string t418) := (blk_cell BK421.out 0).trans rfl; have hcz174_1 : w173.cell? ⟨gb421, 1, none⟩ = some (.int .i64 t419) := (blk_cell BK421.out 1).trans rfl; have hfz174_0 := blk_frozen BK421.out 0; have hfz174_1 := blk_frozen BK421.out 1; have hnb175 := NB429_403.out; have hnc175 := NB403_429.out; have hnb176 := NB429_404.out; have hnc176 := NB404_429.out; have hnb177 := NB429_405.out; have hnc177 := NB405_429.out; have hcz178_0 : w173.cell? ⟨gb429, 0, none⟩ = some (.string t426) := (blk_cell BK429.out 0).trans rfl; have hcz178_1 : w173.cell? ⟨gb429, 1, none⟩ = some (.int .i64 t427) := (blk_cell BK429.out 1).trans rfl; have hfz178_0 := blk_frozen BK429.out 0; have hfz178_1 := blk_frozen BK429.out 1) | ((with_reducible refine gate_callee (f := 15) rfl ?_); refine goesL_ (some 145) rfl rfl Tryd.func15 (by kernel_rfl) rfl #[] rfl (by (try simp only [List.map_toArray, List.map_cons, List.map_nil]); first | done | rfl | (simp only [List.length_drop, List.length_take]; rfl)) ?_; (with_reducible refine (platenlaw04_lives.calls kj54  t434 _ A161.out).mono ?_); rintro e w179 ⟨rfl, hb⟩; refine ⟨_, rfl, ?_⟩; have n0_ := Aside0.mk (blk_below (g := gb403) (o := .cells #[.string a0_0, .int .i64 a0_1] 23 (0, 0)) (by (with_reducible repeat (first | refine blk_drewN ?_ _ | refine blk_drew ?_ | refine blk_alloc ?_ _)); exact BK403.out) hb); have n1_ := Aside0.mk (blk_below (g := gb404) (o := .cells #[.string a1_0, .int .i64 a1_1] 23 (0, 0)) (by (with_reducible repeat (first | refine blk_drewN ?_ _ | refine blk_drew ?_ | refine blk_alloc ?_ _)); exact BK404.out) hb); have n2_ := Aside0.mk (blk_below (g := gb405) (o := .cells #[.string a2_0, .int .i64 a2_1] 23 (0, 0)) (by (with_reducible repeat (first | refine blk_drewN ?_ _ | refine blk_drew ?_ | refine blk_alloc ?_ _)); exact BK405.out) hb); have n3_ := Aside0.mk (blk_below (g := gb421) (o := .cells #[.string t418, .int .i64 t419] 23 (0, 0)) (by (with_reducible repeat (first | refine blk_drewN ?_ _ | refine blk_drew ?_ | refine blk_alloc ?_ _)); exact BK421.out) hb); have n4_ := Aside0.mk (blk_below (g := gb425) (o := .cells #[.string t422, .int .i64 t423] 23 (0, 0)) (by (with_reducible repeat (first | refine blk_drewN ?_ _ | refine blk_drew ?_ | refine blk_alloc ?_ _)); exact BK425.out) hb); have n5_ := Aside0.mk (blk_below (g := gb429) (o := .cells #[.string t426, .int .i64 t427] 23 (0, 0)) (by (with_reducible repeat (first | refine blk_drewN ?_ _ | refine blk_drew ?_ | refine blk_alloc ?_ _)); exact BK429.out) hb); have n6_ := Aside0.mk (below_step (by repeat (first | (with_reducible first | exact HB.out | apply below_alloc | apply pw_below_drewN | apply below_drew1 | refine below_set ?_ GE403.out | refine below_set ?_ GE404.out | refine below_set ?_ GE405.out | refine below_set ?_ GE421.out | refine below_set ?_ GE425.out | refine below_set ?_ GE429.out) | exact HB.out)) hb); clear BK403; clear BK404; clear BK405; clear BK421; clear BK425; clear BK429; clear HB; have BK403 := n0_; have BK404 := n1_; have BK405 := n2_; have BK421 := n3_; have BK425 := n4_; have BK429 := n5_; have HB := n6_; clear n0_ n1_ n2_ n3_ n4_ n5_ n6_; (try clear hb); (try clear hb2); (try clear hk); (try clear hi)))
            go_ret
            exact ⟨by first | rfl | (simp [errW_none, errW_some] <;> rfl) | (simp [*, errW_none, errW_some] <;> rfl), by repeat (first | (with_reducible first | exact HB.out | apply below_alloc | apply pw_below_drewN | apply below_drew1 | refine below_set ?_ GE403.out | refine below_set ?_ GE404.out | refine below_set ?_ GE405.out | refine below_set ?_ GE421.out | refine below_set ?_ GE425.out | refine below_set ?_ GE429.out) | exact HB.out)⟩
end Go.Proofs.YtobidkjmgkmaoaaDoor.Fn
end
section
namespace Go.Proofs.YtobidkjmgkmaoaaDoor.Pure
open Go.RowKit Go.Proofs.YtobidkjmgkmaoaaDoorW.PrintWords Go.Proofs.YtobidkjmgkmaoaaDoor.Fn
set_option linter.unusedVariables false
theorem livesEndO : Ev (fun k => (platenlaw04_lives.f k).bind fun t => some t) true := Ev.bind lives4 (Ev.now _)
theorem cmpS_err (s : ByteArray) (p : Int) (t : ByteArray) (q : Int) (h : (cmpS s p t q).2 ≠ 0) : (cmpS s p t q).1 = 0 := by
  unfold cmpS at *
  split
  · split
    · rename_i h1 h2; rw [if_pos h1, if_pos h2] at h; exact absurd rfl h
    · rfl
  · rfl
theorem cmpS_fine (s : ByteArray) (p : Int) (t : ByteArray) (q : Int) : (cmpS s p t q).2 = 0 ↔ (normS s p).2.2 = 0 ∧ (normS t q).2.2 = 0 := by
  unfold cmpS
  by_cases h1 : (normS s p).2.2 = 0
  · rw [if_pos h1]
    by_cases h2 : (normS t q).2.2 = 0
    · rw [if_pos h2]; exact ⟨fun _ => ⟨h1, h2⟩, fun _ => rfl⟩
    · rw [if_neg h2]; exact ⟨fun h => absurd h h2, fun h => absurd h.2 h2⟩
  · rw [if_neg h1]; exact ⟨fun h => absurd h h1, fun h => absurd h.1 h1⟩
theorem normS_fine {s : ByteArray} {p : Int} (h : (normS s p).2.2 = 0) : ∃ l q, normS s p = (S l, q, 0) ∧ InForm l q ∧ l.length ≤ 2000 ∧ -7000 ≤ q ∧ q ≤ 5000 := by
  rcases normS_cases s p with ⟨e, h1, h2, _⟩ | ⟨l, u, h1, hf1, b1, b2, b3, _⟩
  · rw [h1] at h; exact absurd h h2
  · exact ⟨l, u, h1, hf1, b1, b2, b3⟩
theorem orders_j0_true (x7 x8 x9 x10 x11 x12 x13 x14 : Int) (s : ByteArray) (p : Int) (t : ByteArray) (q : Int) (r : ByteArray) (u : Int) (h1 : x8 ≠ 0 → x7 = 0 ∧ x9 = 0) (h2 : x12 ≠ 0 → x11 = 0) :
    Ev (fun k => platenlaw04_BigdecOrders.j0 k x7 x8 x9 x10 x11 x12 x13 x14 true s p t q r u) true := by
  refine Ev.step (fun k => ?_) livesEndO
  simp only [platenlaw04_BigdecOrders.j0]
  rw [if_pos trivial]
  by_cases c1 : x8 = 0
  · rw [if_pos c1]
    by_cases c2 : x12 = 0
    · rw [if_pos c2]
    · rw [if_neg c2, if_pos (h2 c2)]
  · rw [if_neg c1, if_pos (h1 c1).1, if_pos (h1 c1).2]
    by_cases c2 : x12 = 0
    · rw [if_pos c2]
    · rw [if_neg c2, if_pos (h2 c2)]
theorem cmpD_eq3 {a b c : List UInt8} {p q r : Int} (ha : InForm a p) (hb : InForm b q) (hc : InForm c r) :
    ∃ (E : Int) (x y z : Nat), (a, p) = decOf x E ∧ (b, q) = decOf y E ∧ (c, r) = decOf z E := by
  refine ⟨min (p - (a.length : Int)) (min (q - b.length) (r - c.length)), _, _, _, (decOf_sv ha (by omega)).symm, (decOf_sv hb (by omega)).symm, (decOf_sv hc (by omega)).symm⟩
theorem cmp_pair {a b : List UInt8} {p q E : Int} {x y : Nat} (h1 : (a, p) = decOf x E) (h2 : (b, q) = decOf y E) : cmpD a p b q = cmpN x y := by
  rw [← cmp_decOf x y E, ← h1, ← h2]
theorem sum_pair {a b : List UInt8} {p q E : Int} {x y : Nat} (h1 : (a, p) = decOf x E) (h2 : (b, q) = decOf y E) : sumD a p b q = decOf (x + y) E := by
  rw [← sum_decOf x y E, ← h1, ← h2]
theorem addS_fine {s : ByteArray} {p : Int} {t : ByteArray} {q : Int} {l m : List UInt8} {u v : Int} (h1 : normS s p = (S l, u, 0)) (h2 : normS t q = (S m, v, 0)) : addS s p t q = addD l u m v := by
  unfold addS
  rw [h1, h2, if_pos rfl, if_pos rfl]
  show addD (L (S l)) u (L (S m)) v = _
  rw [L_S, L_S]
theorem cmpS_fine2 {s : ByteArray} {p : Int} {t : ByteArray} {q : Int} {l m : List UInt8} {u v : Int} (h1 : normS s p = (S l, u, 0)) (h2 : normS t q = (S m, v, 0)) : cmpS s p t q = (cmpD l u m v, 0) := by
  unfold cmpS
  rw [h1, h2, if_pos rfl, if_pos rfl]
  show (cmpD (L (S l)) u (L (S m)) v, (0 : Int)) = _
  rw [L_S, L_S]
theorem addD_cases (a : List UInt8) (p : Int) (b : List UInt8) (q : Int) : (addD a p b q).2.2 ≠ 0 ∨ addD a p b q = ((S (sumD a p b q).1), (sumD a p b q).2, 0) := by
  unfold addD
  split
  · left; exact (by decide : (2 : Int) ≠ 0)
  · right; rfl
theorem orders_j2 (x7 : Int) (A B C : ByteArray × Int × Int) (hc : C = A) (hcmp : A.2.2 = 0 → B.2.2 = 0 → (cmpS A.1 A.2.1 B.1 B.2.1).2 = 0 → (cmpS A.1 A.2.1 B.1 B.2.1).1 = x7) (f : Bool) (hf : f = false → A.2.2 = 0 ∧ B.2.2 = 0) :
    Ev (fun k => platenlaw04_BigdecOrders.j2 k x7 A.2.2 C.2.2 f A.1 A.2.1 B.1 B.2.1 C.1 C.2.1) true := by
  subst hc
  cases f with
  | true =>
    refine Ev.step (fun k => ?_) livesEndO
    simp only [platenlaw04_BigdecOrders.j2]
    rw [if_pos trivial, if_pos trivial]
  | false =>
    obtain ⟨g1, g2⟩ := hf rfl
    have hne : ¬ ((!(C.1.toList == C.1.toList) || (!(C.2.1 == C.2.1))) = true) := by simp
    refine Ev.step (f := fun k => ((bigdec_Cmp.f k C.1 C.2.1 B.1 B.2.1).bind fun bt431 => (if bt431.2 = 0 then (if bt431.1 = x7 then (if (!(C.1.toList == C.1.toList) || (!(C.2.1 == C.2.1))) = true then (some false) else ((platenlaw04_lives.f k).bind fun t433 => (some t433))) else (some false)) else (if (!(C.1.toList == C.1.toList) || (!(C.2.1 == C.2.1))) = true then (some false) else ((platenlaw04_lives.f k).bind fun t434 => (some t434)))))) (fun k => ?_) (Ev.bind (cmpS_eq C.1 C.2.1 B.1 B.2.1) ?_)
    · simp only [platenlaw04_BigdecOrders.j2]
      rw [if_neg (fun h => by cases h)]
    · by_cases c1 : (cmpS C.1 C.2.1 B.1 B.2.1).2 = 0
      · exact Ev.congr (fun k => by rw [if_pos c1, if_pos (hcmp g1 g2 c1), if_neg hne]) livesEndO
      · exact Ev.congr (fun k => by rw [if_neg c1, if_neg hne]) livesEndO
theorem orders_j1 (x7 : Int) (s : ByteArray) (p : Int) (t : ByteArray) (q : Int) (r : ByteArray) (u : Int) {a b c : List UInt8} {p' q' r' : Int}
    (h1 : normS s p = (S a, p', 0)) (h2 : normS t q = (S b, q', 0)) (h3 : normS r u = (S c, r', 0)) (f1 : InForm a p') (f2 : InForm b q') (f3 : InForm c r') (hx : x7 = cmpD a p' b q') :
    Ev (fun k => platenlaw04_BigdecOrders.j1 k x7 false s p t q r u) true := by
  have hA : addS s p r u = addD a p' c r' := addS_fine h1 h3
  have hB : addS t q r u = addD b q' c r' := addS_fine h2 h3
  have hC : addS r u s p = addD a p' c r' := by rw [addS_fine h3 h1, addD_comm]
  have hcmp : (addD a p' c r').2.2 = 0 → (addD b q' c r').2.2 = 0 → (cmpS (addD a p' c r').1 (addD a p' c r').2.1 (addD b q' c r').1 (addD b q' c r').2.1).2 = 0 → (cmpS (addD a p' c r').1 (addD a p' c r').2.1 (addD b q' c r').1 (addD b q' c r').2.1).1 = x7 := by
    intro g1 g2 g3
    rcases addD_cases a p' c r' with k1 | k1
    · exact absurd g1 k1
    · rcases addD_cases b q' c r' with k2 | k2
      · exact absurd g2 k2
      · rw [k1, k2] at g3 ⊢
        have g4 := (cmpS_fine _ _ _ _).1 g3
        rcases normS_form (inForm_sumD a p' c r') with k3 | k3
        · rcases normS_form (inForm_sumD b q' c r') with k4 | k4
          · rw [cmpS_fine2 k3 k4, hx]
            obtain ⟨E, x, y, z, e1, e2, e3⟩ := cmpD_eq3 f1 f2 f3
            show cmpD (sumD a p' c r').1 (sumD a p' c r').2 (sumD b q' c r').1 (sumD b q' c r').2 = cmpD a p' b q'
            rw [sum_pair e1 e3, sum_pair e2 e3, cmp_decOf, cmp_pair e1 e2, Nat.add_comm x z, Nat.add_comm y z, cmpN_add]
          · exact absurd g4.2 k4
        · exact absurd g4.1 k3
  refine Ev.step (f := fun k => ((bigdec_Add.f k s p r u).bind fun bt418 => ((bigdec_Add.f k t q r u).bind fun bt422 => ((bigdec_Add.f k r u s p).bind fun bt426 => (if bt418.2.2 = 0 then (platenlaw04_BigdecOrders.j2 k x7 bt418.2.2 bt426.2.2 (bt422.2.2 != 0) bt418.1 bt418.2.1 bt422.1 bt422.2.1 bt426.1 bt426.2.1) else (platenlaw04_BigdecOrders.j2 k x7 bt418.2.2 bt426.2.2 true bt418.1 bt418.2.1 bt422.1 bt422.2.1 bt426.1 bt426.2.1)))))) (fun k => ?_) (Ev.bind (addS_eq s p r u) (Ev.bind (addS_eq t q r u) (Ev.bind (addS_eq r u s p) ?_)))
  · simp only [platenlaw04_BigdecOrders.j1]
    rw [if_neg (fun h => by cases h)]
  · rw [hA, hB, hC]
    by_cases c1 : (addD a p' c r').2.2 = 0
    · exact Ev.congr (fun k => by rw [if_pos c1]) (orders_j2 x7 _ _ _ rfl hcmp _ (fun h => ⟨c1, by simpa using h⟩))
    · exact Ev.congr (fun k => by rw [if_neg c1]) (orders_j2 x7 _ _ _ rfl hcmp true (fun h => by cases h))
theorem cmpN_vals (x y : Nat) : (x < y ∧ cmpN x y = -1) ∨ (x = y ∧ cmpN x y = 0) ∨ (y < x ∧ cmpN x y = 1) := by
  unfold cmpN
  split
  · left; exact ⟨by assumption, rfl⟩
  · split
    · right; right; exact ⟨by assumption, rfl⟩
    · right; left; exact ⟨by omega, rfl⟩
theorem BigdecOrders : ∀ (a0_0 : ByteArray) (a0_1 : Int) (a1_0 : ByteArray) (a1_1 : Int) (a2_0 : ByteArray) (a2_1 : Int), a0_0.size ≤ maxLen → (Lit.int .i64 a0_1).wf = true → a1_0.size ≤ maxLen → (Lit.int .i64 a1_1).wf = true → a2_0.size ≤ maxLen → (Lit.int .i64 a2_1).wf = true → ∃ k, platenlaw04_BigdecOrders.f k a0_0 a0_1 a1_0 a1_1 a2_0 a2_1 = some true := by
  intro s p t q r u _ _ _ _ _ _
  have main : Ev (fun k => platenlaw04_BigdecOrders.f k s p t q r u) true := by
    unfold platenlaw04_BigdecOrders.f
    refine Ev.bind (cmpS_eq s p t q) (Ev.bind (cmpS_eq t q s p) (Ev.bind (cmpS_eq t q r u) (Ev.bind (cmpS_eq s p r u) ?_)))
    have w1 : (cmpS s p t q).2 ≠ 0 → (cmpS s p t q).1 = 0 ∧ (cmpS t q s p).1 = 0 := by
      intro h
      refine ⟨cmpS_err _ _ _ _ h, cmpS_err _ _ _ _ fun h2 => h ?_⟩
      have := (cmpS_fine _ _ _ _).1 h2
      exact (cmpS_fine _ _ _ _).2 ⟨this.2, this.1⟩
    have w2 := cmpS_err t q r u
    by_cases c1 : (cmpS s p t q).2 = 0
    · by_cases c2 : (cmpS t q r u).2 = 0
      · have g1 := (cmpS_fine _ _ _ _).1 c1
        have g2 := (cmpS_fine _ _ _ _).1 c2
        obtain ⟨a, p', h1, f1, _⟩ := normS_fine g1.1
        obtain ⟨b, q', h2, f2, _⟩ := normS_fine g1.2
        obtain ⟨c, r', h3, f3, _⟩ := normS_fine g2.2
        obtain ⟨E, x, y, z, e1, e2, e3⟩ := cmpD_eq3 f1 f2 f3
        have hj := orders_j1 (cmpD a p' b q') s p t q r u h1 h2 h3 f1 f2 f3 rfl
        rw [cmpS_fine2 h1 h2, cmpS_fine2 h2 h1, cmpS_fine2 h2 h3, cmpS_fine2 h1 h3]
        refine Ev.congr (fun k => by rw [if_pos rfl]) (Ev.step (fun k => ?_) hj)
        simp only [platenlaw04_BigdecOrders.j0]
        have hsw := cmpD_swap b q' a p'
        have v1 := cmpN_vals x y
        have v2 := cmpN_vals y z
        have v3 := cmpN_vals x z
        rw [← cmp_pair e1 e2] at v1
        rw [← cmp_pair e2 e3] at v2
        rw [← cmp_pair e1 e3] at v3
        rw [if_neg (by simp), if_pos trivial, if_pos trivial, wrap_id (x := -cmpD a p' b q') (by omega) (by omega), if_pos hsw]
        by_cases c3 : cmpD a p' b q' ≤ 0
        · rw [if_pos c3]
          by_cases c4 : cmpD b q' c r' ≤ 0
          · rw [if_pos c4]
            have e5 : mn (cmpD a p' b q') (cmpD b q' c r') = cmpD a p' c r' := by unfold mn; split <;> omega
            rw [e5]
            have e6 : (cmpD a p' c r' != cmpD a p' c r') = false := by simp
            rw [e6]
          · rw [if_neg c4]
        · rw [if_neg c3]
      · have e2 : ((cmpS t q r u).2 != 0) = true := by simpa using c2
        exact Ev.congr (fun k => by rw [if_pos c1, e2]) (orders_j0_true _ _ _ _ _ _ _ _ _ _ _ _ _ _ w1 w2)
    · exact Ev.congr (fun k => by rw [if_neg c1]) (orders_j0_true _ _ _ _ _ _ _ _ _ _ _ _ _ _ w1 w2)
  exact main.rounds
end Go.Proofs.YtobidkjmgkmaoaaDoor.Pure
end
