/- The law BigdecNear: the walks through its functions and its plain law (part 6). Own texts and the kit's printed words for this seat, without what the law does not use: put together by merge.py (of this work). -/
import Derived.Test.YtobidkjmgkmaoaaDoorMBigdecNear5
import Derived.Handy
section
namespace Go.Proofs.YtobidkjmgkmaoaaDoor.Fn
open Go.RowKit Go.Proofs.YtobidkjmgkmaoaaDoorW.PrintWords Go.Proofs.YtobidkjmgkmaoaaDoorW.PrintLast Go.Proofs.YtobidkjmgkmaoaaDoorW.PrintMore
attribute [local go_sem] max2_int min2_int max_two min_two
set_option linter.unusedVariables false
set_option linter.unusedSimpArgs false
attribute [local go_sem high] eqA23
mutual
def platenlaw04_BigdecNear.j0 : Nat → Int → Int → Bool → ByteArray → Int → Option (Bool)
 | 0, _, _, _, _, _ => none
 | k + 1, x1, x5, x34, x466000, x466001 => if x34 = true then (if (x466000.toList == ([] : List UInt8) && (x466001 == 0)) = true then (if ((x5 != 0) == (x5 != 0)) = true then ((platenlaw04_lives.f k).bind fun t469 => (some t469)) else (some false)) else (if ((x5 != 0) == false) = true then ((platenlaw04_lives.f k).bind fun t470 => (some t470)) else (some false))) else ((bigdec_Round.f k x466000 x466001 (mx 0 (mn x1 1000))).bind fun bt471 => ((bigdec_Round.f k bt471.1 bt471.2.1 (mx 0 (mn x1 1000))).bind fun bt475 => ((bigdec_Places.f k x466000 x466001 (wrap64 ((mx 0 (mn x1 1000)) - x466001))).bind fun bt479 => (if bt471.2.2 = 0 then (if bt475.2.2 = 0 then (if bt479.2.2 = 0 then (if (!(bt471.1.toList == bt479.1.toList) || (!(bt471.2.1 == bt479.2.1))) = true then (platenlaw04_BigdecNear.j1 k (mx 0 (mn x1 1000)) true x466000 x466001 bt471.1 bt471.2.1) else (if (mx 0 (mn x1 1000)) > 0 then (if (!(bt471.1.toList == bt475.1.toList) || (!(bt471.2.1 == bt475.2.1))) = true then (platenlaw04_BigdecNear.j1 k (mx 0 (mn x1 1000)) true x466000 x466001 bt471.1 bt471.2.1) else (platenlaw04_BigdecNear.j1 k (mx 0 (mn x1 1000)) (decide ((bt471.1.size : Int) > (mx (mx 0 (mn x1 1000)) 1))) x466000 x466001 bt471.1 bt471.2.1)) else (platenlaw04_BigdecNear.j1 k (mx 0 (mn x1 1000)) (decide ((bt471.1.size : Int) > (mx (mx 0 (mn x1 1000)) 1))) x466000 x466001 bt471.1 bt471.2.1))) else (platenlaw04_BigdecNear.j1 k (mx 0 (mn x1 1000)) true x466000 x466001 bt471.1 bt471.2.1)) else (platenlaw04_BigdecNear.j1 k (mx 0 (mn x1 1000)) true x466000 x466001 bt471.1 bt471.2.1)) else (platenlaw04_BigdecNear.j1 k (mx 0 (mn x1 1000)) true x466000 x466001 bt471.1 bt471.2.1)))))
def platenlaw04_BigdecNear.j1 : Nat → Int → Bool → ByteArray → Int → ByteArray → Int → Option (Bool)
 | 0, _, _, _, _, _, _ => none
 | k + 1, x1, x103, x466000, x466001, x475000, x475001 => if x103 = true then (some false) else ((platenlaw04_half.f k x475000 x475001 x466000 x466001 (wrap64 (x466001 - x1))).bind fun t483 => (if t483 = true then ((platenlaw04_lives.f k).bind fun t484 => (some t484)) else (some false)))
end
def platenlaw04_BigdecNear.f (k : Nat) (a0_0 : ByteArray) (a0_1 : Int) (a1 : Int) : Option (Bool) := (bigdec_Norm.f k a0_0 a0_1).bind fun bt466 => (if bt466.2.2 = 0 then (if (bt466.1.size : Int) > 900 then (platenlaw04_BigdecNear.j0 k a1 bt466.2.2 true bt466.1 bt466.2.1) else (if bt466.2.1 < (-2000) then (platenlaw04_BigdecNear.j0 k a1 bt466.2.2 true bt466.1 bt466.2.1) else (platenlaw04_BigdecNear.j0 k a1 bt466.2.2 (decide (bt466.2.1 > 2000)) bt466.1 bt466.2.1))) else (platenlaw04_BigdecNear.j0 k a1 bt466.2.2 true bt466.1 bt466.2.1))
set_option maxHeartbeats 8000000 in
set_option maxRecDepth 100000 in
theorem platenlaw04_BigdecNear.calls (k : Nat) (a0_0 : ByteArray) (a0_1 : Int) (a1 : Int) (r : Bool) (w : World) (h : platenlaw04_BigdecNear.f k a0_0 a0_1 a1 = some r) :
  Calls Tryd.prog 12 #[.agg #[.string a0_0, .int .i64 a0_1], .int .i64 a1] w fun e w' => e = .returned (.bool r) ∧ Below w.heap.size w w' := by
 have hu23 := Tryd.underlying23
 have HB := Aside0.mk (Below.refl w.heap.size w)
 have H : ((bigdec_Norm.f k a0_0 a0_1).bind fun bt466 => (if bt466.2.2 = 0 then (if (bt466.1.size : Int) > 900 then (platenlaw04_BigdecNear.j0 k a1 bt466.2.2 true bt466.1 bt466.2.1) else (if bt466.2.1 < (-2000) then (platenlaw04_BigdecNear.j0 k a1 bt466.2.2 true bt466.1 bt466.2.1) else (platenlaw04_BigdecNear.j0 k a1 bt466.2.2 (decide (bt466.2.1 > 2000)) bt466.1 bt466.2.1))) else (platenlaw04_BigdecNear.j0 k a1 bt466.2.2 true bt466.1 bt466.2.1))) = some r := h
 clear h
 replace H := Option.bind_eq_some_iff.mp H
 obtain ⟨⟨t466, t467, t468⟩, A30, H⟩ := H
 replace H : (if t468 = 0 then (if (t466.size : Int) > 900 then (platenlaw04_BigdecNear.j0 k a1 t468 true t466 t467) else (if t467 < (-2000) then (platenlaw04_BigdecNear.j0 k a1 t468 true t466 t467) else (platenlaw04_BigdecNear.j0 k a1 t468 (decide (t467 > 2000)) t466 t467))) else (platenlaw04_BigdecNear.j0 k a1 t468 true t466 t467)) = some r := H
 have A3 := Aside0.mk A30
 clear A30
 have HC4 := Aside0.mk H
 clear H
 go_enter Tryd.func12, Tryd.ntmps12
 go_upto_region 2 with (first | ((with_reducible refine gate_dst (N := 2) rfl ?_); (try (refine gate_guard (by rfl) ?_; dsimp only)); refine box_event ?hg (N := 2) ?hd (cs := #[.string a0_0, .int .i64 a0_1]) (t := 23) ?hr ?_; (case hd => rfl); (case hg => rfl); (case hr => first | (go_simp; done) | (go_simp; rfl)); intro gb465 hg w5 hbox hb; have n0_ := Aside0.mk (below_step (by repeat (first | (with_reducible first | exact HB.out | apply below_alloc | apply pw_below_drewN | apply below_drew1) | exact HB.out)) hb); have n1_ := Aside0.mk (hbox); have n2_ := Aside0.mk ((by rw [hg]; exact (below_size (by repeat (first | (with_reducible first | exact HB.out | apply below_alloc | apply pw_below_drewN | apply below_drew1) | exact HB.out))) : w.heap.size ≤ gb465)); have n3_ := Aside0.mk ((by rw [hg]; exact (below_size (by repeat (first | (with_reducible first | exact HB.out | apply below_alloc | apply pw_below_drewN | apply below_drew1) | exact HB.out))) : w.heap.size ≤ gb465)); clear HB; have HB := n0_; have BK465 := n1_; have GW465 := n2_; have GE465 := n3_; clear n0_ n1_ n2_ n3_; clear hb hbox hg; have hcz6_0 : w5.cell? ⟨gb465, 0, none⟩ = some (.string a0_0) := (blk_cell BK465.out 0).trans rfl; have hcz6_1 : w5.cell? ⟨gb465, 1, none⟩ = some (.int .i64 a0_1) := (blk_cell BK465.out 1).trans rfl; have hfz6_0 := blk_frozen BK465.out 0; have hfz6_1 := blk_frozen BK465.out 1) | ((with_reducible refine gate_callee (f := 13) rfl ?_); refine goesL_ (some 14) rfl rfl Tryd.func13 (by kernel_rfl) rfl #[.agg #[.string a0_0, .int .i64 a0_1]] rfl (by (try simp only [List.map_toArray, List.map_cons, List.map_nil]); first | done | rfl | (simp only [List.length_drop, List.length_take]; rfl)) ?_; (with_reducible refine (bigdec_Norm.calls k a0_0 a0_1 t466 t467 t468 _ A3.out).mono ?_); rintro e w7 ⟨rfl, hb⟩; refine ⟨_, rfl, ?_⟩; have n0_ := Aside0.mk (blk_below (g := gb465) (o := .cells #[.string a0_0, .int .i64 a0_1] 23 (0, 0)) (by (with_reducible repeat (first | refine blk_drewN ?_ _ | refine blk_drew ?_ | refine blk_alloc ?_ _)); exact BK465.out) hb); have n1_ := Aside0.mk (below_step (by repeat (first | (with_reducible first | exact HB.out | apply below_alloc | apply pw_below_drewN | apply below_drew1 | refine below_set ?_ GE465.out) | exact HB.out)) hb); clear BK465; clear HB; have BK465 := n0_; have HB := n1_; clear n0_ n1_; (try clear hb); (try clear hb2); (try clear hk); (try clear hi); have hcz8_0 : w7.cell? ⟨gb465, 0, none⟩ = some (.string a0_0) := (blk_cell BK465.out 0).trans rfl; have hcz8_1 : w7.cell? ⟨gb465, 1, none⟩ = some (.int .i64 a0_1) := (blk_cell BK465.out 1).trans rfl; have hfz8_0 := blk_frozen BK465.out 0; have hfz8_1 := blk_frozen BK465.out 1))
 (try simp only [Act.put, List.setIfInBounds_toArray, List.set_cons_zero, List.set_cons_succ])
 go_cut [34] (fun v34 wc => ∃ (kq : Nat) (x34_3 : Bool), v34 = .bool x34_3 ∧ Aside0 (platenlaw04_BigdecNear.j0 kq a1 t468 x34_3 t466 t467 = some r) ∧ Aside0 (kq ≤ k) ∧ Aside0 (wc.heap[gb465]? = some (.cells #[.string t466, .int .i64 t467] 23 (0, 0))) ∧ Aside0 (Below w.heap.size w wc))
 case first =>
  have H := HC4.out
  clear HC4
  by_cases c9 : t468 = 0
  ·rw [if_pos c9] at H
   have c9b0 : (t468 == 0) = true := beq_iff_eq.mpr c9
   have c9b1 : (t468 != 0) = false := bne_eq_false_iff_eq.mpr c9
   clear c9
   (first | rw [c9b0] | (simp only [i64_w, i32_w]; rw [c9b0]) | skip)
   by_cases c10 : (t466.size : Int) > 900
   ·rw [if_pos c10] at H
    have c10b0 : decide (900 < (t466.size : Int)) = true := decide_eq_true c10
    have c10b1 : decide (900 < t466.size) = true := decide_eq_true (by omega)
    clear c10
    have H' := Aside0.mk H
    clear H
    have hcz11_0 : w7.cell? ⟨gb465, 0, none⟩ = some (.string a0_0) := (blk_cell BK465.out 0).trans rfl
    have hcz11_1 : w7.cell? ⟨gb465, 1, none⟩ = some (.int .i64 a0_1) := (blk_cell BK465.out 1).trans rfl
    have hfz11_0 := blk_frozen BK465.out 0
    have hfz11_1 := blk_frozen BK465.out 1
    go_wp2
    go_meet
    case rel => exact ⟨_, (true), (by first | rfl | (simp; done) | (simp [*]; done)), H', ⟨by first | omega | exact Nat.le_refl _⟩, ⟨by (with_reducible repeat (first | refine blk_drewN ?_ _ | refine blk_drew ?_ | refine blk_alloc ?_ _)); refine blk_put (cs := #[.string t466, .int .i64 a0_1]) ?_ 1 _ rfl; (with_reducible repeat (first | refine blk_drewN ?_ _ | refine blk_drew ?_ | refine blk_alloc ?_ _)); refine blk_put (cs := #[.string a0_0, .int .i64 a0_1]) ?_ 0 _ rfl; (with_reducible repeat (first | refine blk_drewN ?_ _ | refine blk_drew ?_ | refine blk_alloc ?_ _)); exact BK465.out⟩, ⟨by repeat (first | (with_reducible first | exact HB.out | apply below_alloc | apply pw_below_drewN | apply below_drew1 | refine below_set ?_ GE465.out) | exact HB.out)⟩⟩
   ·rw [if_neg c10] at H
    have c10b0 : decide (900 < (t466.size : Int)) = false := decide_eq_false c10
    have c10b1 : decide (900 < t466.size) = false := decide_eq_false (by omega)
    clear c10
    by_cases c12 : t467 < (-2000)
    ·rw [if_pos c12] at H
     have c12b0 : decide (t467 < (-2000)) = true := decide_eq_true c12
     clear c12
     have H' := Aside0.mk H
     clear H
     have hcz13_0 : w7.cell? ⟨gb465, 0, none⟩ = some (.string a0_0) := (blk_cell BK465.out 0).trans rfl
     have hcz13_1 : w7.cell? ⟨gb465, 1, none⟩ = some (.int .i64 a0_1) := (blk_cell BK465.out 1).trans rfl
     have hfz13_0 := blk_frozen BK465.out 0
     have hfz13_1 := blk_frozen BK465.out 1
     go_wp2
     go_meet
     case rel => exact ⟨_, (true), (by first | rfl | (simp; done) | (simp [*]; done)), H', ⟨by first | omega | exact Nat.le_refl _⟩, ⟨by (with_reducible repeat (first | refine blk_drewN ?_ _ | refine blk_drew ?_ | refine blk_alloc ?_ _)); refine blk_put (cs := #[.string t466, .int .i64 a0_1]) ?_ 1 _ rfl; (with_reducible repeat (first | refine blk_drewN ?_ _ | refine blk_drew ?_ | refine blk_alloc ?_ _)); refine blk_put (cs := #[.string a0_0, .int .i64 a0_1]) ?_ 0 _ rfl; (with_reducible repeat (first | refine blk_drewN ?_ _ | refine blk_drew ?_ | refine blk_alloc ?_ _)); exact BK465.out⟩, ⟨by repeat (first | (with_reducible first | exact HB.out | apply below_alloc | apply pw_below_drewN | apply below_drew1 | refine below_set ?_ GE465.out) | exact HB.out)⟩⟩
    ·rw [if_neg c12] at H
     have c12b0 : decide (t467 < (-2000)) = false := decide_eq_false c12
     clear c12
     have H' := Aside0.mk H
     clear H
     have hcz14_0 : w7.cell? ⟨gb465, 0, none⟩ = some (.string a0_0) := (blk_cell BK465.out 0).trans rfl
     have hcz14_1 : w7.cell? ⟨gb465, 1, none⟩ = some (.int .i64 a0_1) := (blk_cell BK465.out 1).trans rfl
     have hfz14_0 := blk_frozen BK465.out 0
     have hfz14_1 := blk_frozen BK465.out 1
     go_wp2
     go_meet
     case rel => exact ⟨_, (decide (t467 > 2000)), (by first | rfl | (simp; done) | (simp [*]; done)), H', ⟨by first | omega | exact Nat.le_refl _⟩, ⟨by (with_reducible repeat (first | refine blk_drewN ?_ _ | refine blk_drew ?_ | refine blk_alloc ?_ _)); refine blk_put (cs := #[.string t466, .int .i64 a0_1]) ?_ 1 _ rfl; (with_reducible repeat (first | refine blk_drewN ?_ _ | refine blk_drew ?_ | refine blk_alloc ?_ _)); refine blk_put (cs := #[.string a0_0, .int .i64 a0_1]) ?_ 0 _ rfl; (with_reducible repeat (first | refine blk_drewN ?_ _ | refine blk_drew ?_ | refine blk_alloc ?_ _)); exact BK465.out⟩, ⟨by repeat (first | (with_reducible first | exact HB.out | apply below_alloc | apply pw_below_drewN | apply below_drew1 | refine below_set ?_ GE465.out) | exact HB.out)⟩⟩
  ·rw [if_neg c9] at H
   have c9b0 : (t468 == 0) = false := beq_eq_false_iff_ne.mpr c9
   have c9b1 : (t468 != 0) = true := bne_iff_ne.mpr c9
   (first | rw [c9b0] | (simp only [i64_w, i32_w]; rw [c9b0]) | skip)
   have H' := Aside0.mk H
   clear H
   go_wp2
   go_meet
   case rel => exact ⟨_, (true), (by first | rfl | (simp; done) | (simp [*]; done)), H', ⟨by first | omega | exact Nat.le_refl _⟩, ⟨by (with_reducible repeat (first | refine blk_drewN ?_ _ | refine blk_drew ?_ | refine blk_alloc ?_ _)); refine blk_put (cs := #[.string t466, .int .i64 a0_1]) ?_ 1 _ rfl; (with_reducible repeat (first | refine blk_drewN ?_ _ | refine blk_drew ?_ | refine blk_alloc ?_ _)); refine blk_put (cs := #[.string a0_0, .int .i64 a0_1]) ?_ 0 _ rfl; (with_reducible repeat (first | refine blk_drewN ?_ _ | refine blk_drew ?_ | refine blk_alloc ?_ _)); exact BK465.out⟩, ⟨by repeat (first | (with_reducible first | exact HB.out | apply below_alloc | apply pw_below_drewN | apply below_drew1 | refine below_set ?_ GE465.out) | exact HB.out)⟩⟩
 case rest =>
  clear HC4
  try clear c9
  try clear c9b0
  try clear c9b1
  try clear c10
  try clear c10b0
  try clear c10b1
  try clear c12
  try clear c12b0
  try clear hcz11_0
  try clear hcz11_1
  try clear hcz13_0
  try clear hcz13_1
  try clear hcz14_0
  try clear hcz14_1
  try clear hcz6_0
  try clear hcz6_1
  try clear hcz8_0
  try clear hcz8_1
  try clear hfz11_0
  try clear hfz11_1
  try clear hfz13_0
  try clear hfz13_1
  try clear hfz14_0
  try clear hfz14_1
  try clear hfz6_0
  try clear hfz6_1
  try clear hfz8_0
  try clear hfz8_1
  obtain ⟨kq, x34_3, rfl, HA, HJ3, BK465, HB⟩ := hcut
  cases kq with
  | zero => exact absurd HA.out (by simp [platenlaw04_BigdecNear.j0])
  | succ kj3 =>
   have H := HA.out
   clear HA
   simp only [platenlaw04_BigdecNear.j0] at H
   by_cases c15 : x34_3 = true
   ·subst c15
    have H1 : (if (t466.toList == ([] : List UInt8) && (t467 == 0)) = true then (if ((t468 != 0) == (t468 != 0)) = true then ((platenlaw04_lives.f kj3).bind fun t469 => (some t469)) else (some false)) else (if ((t468 != 0) == false) = true then ((platenlaw04_lives.f kj3).bind fun t470 => (some t470)) else (some false))) = some r := by rw [if_pos rfl] at H; exact H
    clear H
    have H := H1
    clear H1
    by_cases c16 : (t466.toList == ([] : List UInt8) && (t467 == 0)) = true
    ·rw [if_pos c16] at H
     have c16b0 : (t466.toList == ([] : List UInt8) && (t467 == 0)) = true := c16
     have c16e : (t466.toList = [] ∧ t467 = 0) = True := eq_true (by simpa using c16b0)
     (try (have c16b1 : decide (t466.toList = ([] : List UInt8) && (t467 == 0)) = true := by simpa using c16))
     (try (have c16b2 : (t466.toList == ([] : List UInt8) && (t467 == 0)) = true := by simpa using c16))
     clear c16
     by_cases c17 : ((t468 != 0) == (t468 != 0)) = true
     ·rw [if_pos c17] at H
      have c17b0 : ((t468 != 0) == (t468 != 0)) = true := c17
      clear c17
      replace H := Option.bind_eq_some_iff.mp H
      obtain ⟨t469, A180, H⟩ := H
      replace H : (some t469) = some r := H
      have A18 := Aside0.mk A180
      clear A180
      obtain rfl := Option.some.inj H
      have hcz19_0 : wc.cell? ⟨gb465, 0, none⟩ = some (.string t466) := (blk_cell BK465.out 0).trans rfl
      have hcz19_1 : wc.cell? ⟨gb465, 1, none⟩ = some (.int .i64 t467) := (blk_cell BK465.out 1).trans rfl
      have hfz19_0 := blk_frozen BK465.out 0
      have hfz19_1 := blk_frozen BK465.out 1
      go_wp2_with (first | (go_at_call 15; (with_reducible refine (platenlaw04_lives.calls kj3  t469 _ A18.out).mono ?_); rintro e w20 ⟨rfl, hb⟩; have n0_ := Aside0.mk (blk_below (g := gb465) (o := .cells #[.string t466, .int .i64 t467] 23 (0, 0)) (by (with_reducible repeat (first | refine blk_drewN ?_ _ | refine blk_drew ?_ | refine blk_alloc ?_ _)); exact BK465.out) hb); have n1_ := Aside0.mk (below_step (by repeat (first | (with_reducible first | exact HB.out | apply below_alloc | apply pw_below_drewN | apply below_drew1 | refine below_set ?_ GE465.out) | exact HB.out)) hb); clear BK465; clear HB; have BK465 := n0_; have HB := n1_; clear n0_ n1_; (try clear hb); (try clear hb2); (try clear hk); (try clear hi)))
      go_ret
      exact ⟨by first | rfl | (simp [errW_none, errW_some] <;> rfl) | (simp [*, errW_none, errW_some] <;> rfl), by repeat (first | (with_reducible first | exact HB.out | apply below_alloc | apply pw_below_drewN | apply below_drew1 | refine below_set ?_ GE465.out) | exact HB.out)⟩
     ·exact absurd (beq_self_eq_true _) c17
    ·rw [if_neg c16] at H
     have c16b0 : (t466.toList == ([] : List UInt8) && (t467 == 0)) = false := by simpa using c16
     have c16e : (t466.toList = [] ∧ t467 = 0) = False := eq_false (by simpa using c16b0)
     (try (have c16b1 : decide (t466.toList = ([] : List UInt8) && (t467 == 0)) = false := by simpa using c16))
     (try (have c16b2 : (t466.toList == ([] : List UInt8) && (t467 == 0)) = false := by simpa using c16))
     (try (have c16b3 : ¬ (t466.toList = ([] : List UInt8) && (t467 == 0)) := by simpa using c16))
     clear c16
     by_cases c22 : ((t468 != 0) == false) = true
     ·rw [if_pos c22] at H
      have c22b0 : ((t468 != 0) == false) = true := c22
      (try (have c22b1 : decide ((t468 != 0) = false) = true := by simpa using c22))
      (try (have c22b2 : ((t468 != 0) == false) = true := by simpa using c22))
      clear c22
      replace H := Option.bind_eq_some_iff.mp H
      obtain ⟨t470, A230, H⟩ := H
      replace H : (some t470) = some r := H
      have A23 := Aside0.mk A230
      clear A230
      obtain rfl := Option.some.inj H
      have hcz24_0 : wc.cell? ⟨gb465, 0, none⟩ = some (.string t466) := (blk_cell BK465.out 0).trans rfl
      have hcz24_1 : wc.cell? ⟨gb465, 1, none⟩ = some (.int .i64 t467) := (blk_cell BK465.out 1).trans rfl
      have hfz24_0 := blk_frozen BK465.out 0
      have hfz24_1 := blk_frozen BK465.out 1
      go_wp2_with (first | (go_at_call 15; (with_reducible refine (platenlaw04_lives.calls kj3  t470 _ A23.out).mono ?_); rintro e w25 ⟨rfl, hb⟩; have n0_ := Aside0.mk (blk_below (g := gb465) (o := .cells #[.string t466, .int .i64 t467] 23 (0, 0)) (by (with_reducible repeat (first | refine blk_drewN ?_ _ | refine blk_drew ?_ | refine blk_alloc ?_ _)); exact BK465.out) hb); have n1_ := Aside0.mk (below_step (by repeat (first | (with_reducible first | exact HB.out | apply below_alloc | apply pw_below_drewN | apply below_drew1 | refine below_set ?_ GE465.out) | exact HB.out)) hb); clear BK465; clear HB; have BK465 := n0_; have HB := n1_; clear n0_ n1_; (try clear hb); (try clear hb2); (try clear hk); (try clear hi)))
      go_ret
      exact ⟨by first | rfl | (simp [errW_none, errW_some] <;> rfl) | (simp [*, errW_none, errW_some] <;> rfl), by repeat (first | (with_reducible first | exact HB.out | apply below_alloc | apply pw_below_drewN | apply below_drew1 | refine below_set ?_ GE465.out) | exact HB.out)⟩
     ·rw [if_neg c22] at H
      have c22b0 : ((t468 != 0) == false) = false := by simpa using c22
      (try (have c22b1 : decide ((t468 != 0) = false) = false := by simpa using c22))
      (try (have c22b2 : ((t468 != 0) == false) = false := by simpa using c22))
      (try (have c22b3 : ¬ ((t468 != 0) = false) := by simpa using c22))
      clear c22
      obtain rfl := Option.some.inj H
      have hcz26_0 : wc.cell? ⟨gb465, 0, none⟩ = some (.string t466) := (blk_cell BK465.out 0).trans rfl
      have hcz26_1 : wc.cell? ⟨gb465, 1, none⟩ = some (.int .i64 t467) := (blk_cell BK465.out 1).trans rfl
      have hfz26_0 := blk_frozen BK465.out 0
      have hfz26_1 := blk_frozen BK465.out 1
      go_wp2
      go_ret
      exact ⟨by first | rfl | (simp [errW_none, errW_some] <;> rfl) | (simp [*, errW_none, errW_some] <;> rfl), by repeat (first | (with_reducible first | exact HB.out | apply below_alloc | apply pw_below_drewN | apply below_drew1 | refine below_set ?_ GE465.out) | exact HB.out)⟩
   ·replace c15 := Bool.eq_false_iff.mpr c15
    subst c15
    have H1 : ((bigdec_Round.f kj3 t466 t467 (mx 0 (mn a1 1000))).bind fun bt471 => ((bigdec_Round.f kj3 bt471.1 bt471.2.1 (mx 0 (mn a1 1000))).bind fun bt475 => ((bigdec_Places.f kj3 t466 t467 (wrap64 ((mx 0 (mn a1 1000)) - t467))).bind fun bt479 => (if bt471.2.2 = 0 then (if bt475.2.2 = 0 then (if bt479.2.2 = 0 then (if (!(bt471.1.toList == bt479.1.toList) || (!(bt471.2.1 == bt479.2.1))) = true then (platenlaw04_BigdecNear.j1 kj3 (mx 0 (mn a1 1000)) true t466 t467 bt471.1 bt471.2.1) else (if (mx 0 (mn a1 1000)) > 0 then (if (!(bt471.1.toList == bt475.1.toList) || (!(bt471.2.1 == bt475.2.1))) = true then (platenlaw04_BigdecNear.j1 kj3 (mx 0 (mn a1 1000)) true t466 t467 bt471.1 bt471.2.1) else (platenlaw04_BigdecNear.j1 kj3 (mx 0 (mn a1 1000)) (decide ((bt471.1.size : Int) > (mx (mx 0 (mn a1 1000)) 1))) t466 t467 bt471.1 bt471.2.1)) else (platenlaw04_BigdecNear.j1 kj3 (mx 0 (mn a1 1000)) (decide ((bt471.1.size : Int) > (mx (mx 0 (mn a1 1000)) 1))) t466 t467 bt471.1 bt471.2.1))) else (platenlaw04_BigdecNear.j1 kj3 (mx 0 (mn a1 1000)) true t466 t467 bt471.1 bt471.2.1)) else (platenlaw04_BigdecNear.j1 kj3 (mx 0 (mn a1 1000)) true t466 t467 bt471.1 bt471.2.1)) else (platenlaw04_BigdecNear.j1 kj3 (mx 0 (mn a1 1000)) true t466 t467 bt471.1 bt471.2.1))))) = some r := by rw [if_neg (show ¬ (false = true) by decide)] at H; exact H
    clear H
    have H := H1
    clear H1
    obtain ⟨ji27, hji27⟩ : ∃ j_ : Int, (mn a1 1000) = j_ := ⟨_, rfl⟩
    replace H : ((bigdec_Round.f kj3 t466 t467 (mx 0 (ji27))).bind fun bt471 => ((bigdec_Round.f kj3 bt471.1 bt471.2.1 (mx 0 (ji27))).bind fun bt475 => ((bigdec_Places.f kj3 t466 t467 (wrap64 ((mx 0 (ji27)) - t467))).bind fun bt479 => (if bt471.2.2 = 0 then (if bt475.2.2 = 0 then (if bt479.2.2 = 0 then (if (!(bt471.1.toList == bt479.1.toList) || (!(bt471.2.1 == bt479.2.1))) = true then (platenlaw04_BigdecNear.j1 kj3 (mx 0 (ji27)) true t466 t467 bt471.1 bt471.2.1) else (if (mx 0 (ji27)) > 0 then (if (!(bt471.1.toList == bt475.1.toList) || (!(bt471.2.1 == bt475.2.1))) = true then (platenlaw04_BigdecNear.j1 kj3 (mx 0 (ji27)) true t466 t467 bt471.1 bt471.2.1) else (platenlaw04_BigdecNear.j1 kj3 (mx 0 (ji27)) (decide ((bt471.1.size : Int) > (mx (mx 0 (ji27)) 1))) t466 t467 bt471.1 bt471.2.1)) else (platenlaw04_BigdecNear.j1 kj3 (mx 0 (ji27)) (decide ((bt471.1.size : Int) > (mx (mx 0 (ji27)) 1))) t466 t467 bt471.1 bt471.2.1))) else (platenlaw04_BigdecNear.j1 kj3 (mx 0 (ji27)) true t466 t467 bt471.1 bt471.2.1)) else (platenlaw04_BigdecNear.j1 kj3 (mx 0 (ji27)) true t466 t467 bt471.1 bt471.2.1)) else (platenlaw04_BigdecNear.j1 kj3 (mx 0 (ji27)) true t466 t467 bt471.1 bt471.2.1))))) = some r := by first | (rw [hji27] at H; exact H) | (simp only [hji27] at H ⊢; exact H)
    (try (have hji27h : ji27 ≤ 1000 := by (rw [← hji27]; unfold mn; (repeat' split) <;> omega)))
    (try (have hji27g : ji27 ≤ 64 := by omega))
    have hji27_ : (if 1000 < a1 then 1000 else a1) = ji27 := hji27
    obtain ⟨ji28, hji28⟩ : ∃ j_ : Int, (mx 0 (ji27)) = j_ := ⟨_, rfl⟩
    replace H : ((bigdec_Round.f kj3 t466 t467 (ji28)).bind fun bt471 => ((bigdec_Round.f kj3 bt471.1 bt471.2.1 (ji28)).bind fun bt475 => ((bigdec_Places.f kj3 t466 t467 (wrap64 ((ji28) - t467))).bind fun bt479 => (if bt471.2.2 = 0 then (if bt475.2.2 = 0 then (if bt479.2.2 = 0 then (if (!(bt471.1.toList == bt479.1.toList) || (!(bt471.2.1 == bt479.2.1))) = true then (platenlaw04_BigdecNear.j1 kj3 ji28 true t466 t467 bt471.1 bt471.2.1) else (if (ji28) > 0 then (if (!(bt471.1.toList == bt475.1.toList) || (!(bt471.2.1 == bt475.2.1))) = true then (platenlaw04_BigdecNear.j1 kj3 ji28 true t466 t467 bt471.1 bt471.2.1) else (platenlaw04_BigdecNear.j1 kj3 ji28 (decide ((bt471.1.size : Int) > (mx (ji28) 1))) t466 t467 bt471.1 bt471.2.1)) else (platenlaw04_BigdecNear.j1 kj3 ji28 (decide ((bt471.1.size : Int) > (mx (ji28) 1))) t466 t467 bt471.1 bt471.2.1))) else (platenlaw04_BigdecNear.j1 kj3 ji28 true t466 t467 bt471.1 bt471.2.1)) else (platenlaw04_BigdecNear.j1 kj3 ji28 true t466 t467 bt471.1 bt471.2.1)) else (platenlaw04_BigdecNear.j1 kj3 ji28 true t466 t467 bt471.1 bt471.2.1))))) = some r := by first | (rw [hji28] at H; exact H) | (simp only [hji28] at H ⊢; exact H)
    have hji28_ : (if 0 < (ji27) then (ji27) else 0) = ji28 := hji28
    replace H := Option.bind_eq_some_iff.mp H
    obtain ⟨⟨t471, t472, t473⟩, A290, H⟩ := H
    replace H : ((bigdec_Round.f kj3 t471 t472 (ji28)).bind fun bt475 => ((bigdec_Places.f kj3 t466 t467 (wrap64 ((ji28) - t467))).bind fun bt479 => (if t473 = 0 then (if bt475.2.2 = 0 then (if bt479.2.2 = 0 then (if (!(t471.toList == bt479.1.toList) || (!(t472 == bt479.2.1))) = true then (platenlaw04_BigdecNear.j1 kj3 ji28 true t466 t467 t471 t472) else (if (ji28) > 0 then (if (!(t471.toList == bt475.1.toList) || (!(t472 == bt475.2.1))) = true then (platenlaw04_BigdecNear.j1 kj3 ji28 true t466 t467 t471 t472) else (platenlaw04_BigdecNear.j1 kj3 ji28 (decide ((t471.size : Int) > (mx (ji28) 1))) t466 t467 t471 t472)) else (platenlaw04_BigdecNear.j1 kj3 ji28 (decide ((t471.size : Int) > (mx (ji28) 1))) t466 t467 t471 t472))) else (platenlaw04_BigdecNear.j1 kj3 ji28 true t466 t467 t471 t472)) else (platenlaw04_BigdecNear.j1 kj3 ji28 true t466 t467 t471 t472)) else (platenlaw04_BigdecNear.j1 kj3 ji28 true t466 t467 t471 t472)))) = some r := H
    have A29 := Aside0.mk A290
    clear A290
    replace H := Option.bind_eq_some_iff.mp H
    obtain ⟨⟨t475, t476, t477⟩, A300, H⟩ := H
    replace H : ((bigdec_Places.f kj3 t466 t467 (wrap64 ((ji28) - t467))).bind fun bt479 => (if t473 = 0 then (if t477 = 0 then (if bt479.2.2 = 0 then (if (!(t471.toList == bt479.1.toList) || (!(t472 == bt479.2.1))) = true then (platenlaw04_BigdecNear.j1 kj3 ji28 true t466 t467 t471 t472) else (if (ji28) > 0 then (if (!(t471.toList == t475.toList) || (!(t472 == t476))) = true then (platenlaw04_BigdecNear.j1 kj3 ji28 true t466 t467 t471 t472) else (platenlaw04_BigdecNear.j1 kj3 ji28 (decide ((t471.size : Int) > (mx (ji28) 1))) t466 t467 t471 t472)) else (platenlaw04_BigdecNear.j1 kj3 ji28 (decide ((t471.size : Int) > (mx (ji28) 1))) t466 t467 t471 t472))) else (platenlaw04_BigdecNear.j1 kj3 ji28 true t466 t467 t471 t472)) else (platenlaw04_BigdecNear.j1 kj3 ji28 true t466 t467 t471 t472)) else (platenlaw04_BigdecNear.j1 kj3 ji28 true t466 t467 t471 t472))) = some r := H
    have A30 := Aside0.mk A300
    clear A300
    replace H := Option.bind_eq_some_iff.mp H
    obtain ⟨⟨t479, t480, t481⟩, A310, H⟩ := H
    replace H : (if t473 = 0 then (if t477 = 0 then (if t481 = 0 then (if (!(t471.toList == t479.toList) || (!(t472 == t480))) = true then (platenlaw04_BigdecNear.j1 kj3 ji28 true t466 t467 t471 t472) else (if (ji28) > 0 then (if (!(t471.toList == t475.toList) || (!(t472 == t476))) = true then (platenlaw04_BigdecNear.j1 kj3 ji28 true t466 t467 t471 t472) else (platenlaw04_BigdecNear.j1 kj3 ji28 (decide ((t471.size : Int) > (mx (ji28) 1))) t466 t467 t471 t472)) else (platenlaw04_BigdecNear.j1 kj3 ji28 (decide ((t471.size : Int) > (mx (ji28) 1))) t466 t467 t471 t472))) else (platenlaw04_BigdecNear.j1 kj3 ji28 true t466 t467 t471 t472)) else (platenlaw04_BigdecNear.j1 kj3 ji28 true t466 t467 t471 t472)) else (platenlaw04_BigdecNear.j1 kj3 ji28 true t466 t467 t471 t472)) = some r := H
    have A31 := Aside0.mk A310
    clear A310
    have HC32 := Aside0.mk H
    clear H
    have hcz33_0 : wc.cell? ⟨gb465, 0, none⟩ = some (.string t466) := (blk_cell BK465.out 0).trans rfl
    have hcz33_1 : wc.cell? ⟨gb465, 1, none⟩ = some (.int .i64 t467) := (blk_cell BK465.out 1).trans rfl
    have hfz33_0 := blk_frozen BK465.out 0
    have hfz33_1 := blk_frozen BK465.out 1
    go_upto_region 8 with (first | ((with_reducible refine gate_callee (f := 18) rfl ?_); refine goesL_ (some 54) rfl rfl Tryd.func18 (by kernel_rfl) rfl #[.agg #[.string t466, .int .i64 t467], .int .i64 ji28] rfl (by (try simp only [List.map_toArray, List.map_cons, List.map_nil]); first | done | (simp only [hji28]; rfl) | rfl | (simp only [List.length_drop, List.length_take]; rfl)) ?_; (with_reducible refine (bigdec_Round.calls kj3 t466 t467 ji28 t471 t472 t473 _ A29.out).mono ?_); rintro e w34 ⟨rfl, hb⟩; refine ⟨_, rfl, ?_⟩; have n0_ := Aside0.mk (blk_below (g := gb465) (o := .cells #[.string t466, .int .i64 t467] 23 (0, 0)) (by (with_reducible repeat (first | refine blk_drewN ?_ _ | refine blk_drew ?_ | refine blk_alloc ?_ _)); exact BK465.out) hb); have n1_ := Aside0.mk (below_step (by repeat (first | (with_reducible first | exact HB.out | apply below_alloc | apply pw_below_drewN | apply below_drew1 | refine below_set ?_ GE465.out) | exact HB.out)) hb); clear BK465; clear HB; have BK465 := n0_; have HB := n1_; clear n0_ n1_; (try clear hb); (try clear hb2); (try clear hk); (try clear hi)) | ((with_reducible refine gate_dst (N := 6) rfl ?_); (try (refine gate_guard (by rfl) ?_; dsimp only)); refine box_event ?hg (N := 6) ?hd (cs := #[.string (⟨#[]⟩ : ByteArray), .int .i64 0]) (t := 23) ?hr ?_; (case hd => rfl); (case hg => rfl); (case hr => first | (go_simp; done) | (go_simp; rfl)); intro gb474 hg w35 hbox hb; have n0_ := Aside0.mk (blk_below (g := gb465) (o := .cells #[.string t466, .int .i64 t467] 23 (0, 0)) (by (with_reducible repeat (first | refine blk_drewN ?_ _ | refine blk_drew ?_ | refine blk_alloc ?_ _)); exact BK465.out) hb); have n1_ := Aside0.mk (below_step (by repeat (first | (with_reducible first | exact HB.out | apply below_alloc | apply pw_below_drewN | apply below_drew1 | refine below_set ?_ GE465.out) | exact HB.out)) hb); have n2_ := Aside0.mk (hbox); have n3_ := Aside0.mk ((by rw [hg]; exact (below_size (by repeat (first | (with_reducible first | exact HB.out | apply below_alloc | apply pw_below_drewN | apply below_drew1 | refine below_set ?_ GE465.out) | exact HB.out))) : w.heap.size ≤ gb474)); have n4_ := Aside0.mk ((by rw [hg]; exact (below_size (by repeat (first | (with_reducible first | exact HB.out | apply below_alloc | apply pw_below_drewN | apply below_drew1 | refine below_set ?_ GE465.out) | exact HB.out))) : w.heap.size ≤ gb474)); have n5_ := Aside0.mk ((by rw [hg]; exact Nat.ne_of_lt (blk_lt (g := gb465) (o := .cells #[.string t466, .int .i64 t467] 23 (0, 0)) (by (with_reducible repeat (first | refine blk_drewN ?_ _ | refine blk_drew ?_ | refine blk_alloc ?_ _)); exact BK465.out)) : gb465 ≠ gb474)); have n6_ := Aside0.mk ((by rw [hg]; exact Nat.ne_of_gt (blk_lt (g := gb465) (o := .cells #[.string t466, .int .i64 t467] 23 (0, 0)) (by (with_reducible repeat (first | refine blk_drewN ?_ _ | refine blk_drew ?_ | refine blk_alloc ?_ _)); exact BK465.out)) : gb474 ≠ gb465)); clear BK465; clear HB; have BK465 := n0_; have HB := n1_; have BK474 := n2_; have GW474 := n3_; have GE474 := n4_; have NB465_474 := n5_; have NB474_465 := n6_; clear n0_ n1_ n2_ n3_ n4_ n5_ n6_; clear hb hbox hg; have hnb36 := NB474_465.out; have hnc36 := NB465_474.out; have hcz37_0 : w35.cell? ⟨gb474, 0, none⟩ = some (.string (⟨#[]⟩ : ByteArray)) := (blk_cell BK474.out 0).trans rfl; have hcz37_1 : w35.cell? ⟨gb474, 1, none⟩ = some (.int .i64 0) := (blk_cell BK474.out 1).trans rfl; have hfz37_0 := blk_frozen BK474.out 0; have hfz37_1 := blk_frozen BK474.out 1) | ((with_reducible refine gate_callee (f := 18) rfl ?_); refine goesL_ (some 60) rfl rfl Tryd.func18 (by kernel_rfl) rfl #[.agg #[.string t471, .int .i64 t472], .int .i64 ji28] rfl (by (try simp only [List.map_toArray, List.map_cons, List.map_nil]); first | done | (simp only [hji28]; rfl) | rfl | (simp only [List.length_drop, List.length_take]; rfl)) ?_; (with_reducible refine (bigdec_Round.calls kj3 t471 t472 ji28 t475 t476 t477 _ A30.out).mono ?_); rintro e w38 ⟨rfl, hb⟩; refine ⟨_, rfl, ?_⟩; have n0_ := Aside0.mk (blk_below (g := gb465) (o := .cells #[.string t466, .int .i64 t467] 23 (0, 0)) (by (with_reducible repeat (first | refine blk_drewN ?_ _ | refine blk_drew ?_ | refine blk_alloc ?_ _)); refine blk_far ?_ NB465_474.out _; (with_reducible repeat (first | refine blk_drewN ?_ _ | refine blk_drew ?_ | refine blk_alloc ?_ _)); refine blk_far ?_ NB465_474.out _; (with_reducible repeat (first | refine blk_drewN ?_ _ | refine blk_drew ?_ | refine blk_alloc ?_ _)); exact BK465.out) hb); have n1_ := Aside0.mk (blk_below (g := gb474) (o := .cells #[.string t471, .int .i64 t472] 23 (0, 0)) (by (with_reducible repeat (first | refine blk_drewN ?_ _ | refine blk_drew ?_ | refine blk_alloc ?_ _)); refine blk_put (cs := #[.string t471, .int .i64 0]) ?_ 1 _ rfl; (with_reducible repeat (first | refine blk_drewN ?_ _ | refine blk_drew ?_ | refine blk_alloc ?_ _)); refine blk_put (cs := #[.string (⟨#[]⟩ : ByteArray), .int .i64 0]) ?_ 0 _ rfl; (with_reducible repeat (first | refine blk_drewN ?_ _ | refine blk_drew ?_ | refine blk_alloc ?_ _)); exact BK474.out) hb); have n2_ := Aside0.mk (below_step (by repeat (first | (with_reducible first | exact HB.out | apply below_alloc | apply pw_below_drewN | apply below_drew1 | refine below_set ?_ GE465.out | refine below_set ?_ GE474.out) | exact HB.out)) hb); clear BK465; clear BK474; clear HB; have BK465 := n0_; have BK474 := n1_; have HB := n2_; clear n0_ n1_ n2_; (try clear hb); (try clear hb2); (try clear hk); (try clear hi)) | ((with_reducible refine gate_dst (N := 8) rfl ?_); (try (refine gate_guard (by rfl) ?_; dsimp only)); refine box_event ?hg (N := 8) ?hd (cs := #[.string (⟨#[]⟩ : ByteArray), .int .i64 0]) (t := 23) ?hr ?_; (case hd => rfl); (case hg => rfl); (case hr => first | (go_simp; done) | (go_simp; rfl)); intro gb478 hg w39 hbox hb; have n0_ := Aside0.mk (blk_below (g := gb465) (o := .cells #[.string t466, .int .i64 t467] 23 (0, 0)) (by (with_reducible repeat (first | refine blk_drewN ?_ _ | refine blk_drew ?_ | refine blk_alloc ?_ _)); exact BK465.out) hb); have n1_ := Aside0.mk (blk_below (g := gb474) (o := .cells #[.string t471, .int .i64 t472] 23 (0, 0)) (by (with_reducible repeat (first | refine blk_drewN ?_ _ | refine blk_drew ?_ | refine blk_alloc ?_ _)); exact BK474.out) hb); have n2_ := Aside0.mk (below_step (by repeat (first | (with_reducible first | exact HB.out | apply below_alloc | apply pw_below_drewN | apply below_drew1 | refine below_set ?_ GE465.out | refine below_set ?_ GE474.out) | exact HB.out)) hb); have n3_ := Aside0.mk (hbox); have n4_ := Aside0.mk ((by rw [hg]; exact (below_size (by repeat (first | (with_reducible first | exact HB.out | apply below_alloc | apply pw_below_drewN | apply below_drew1 | refine below_set ?_ GE465.out | refine below_set ?_ GE474.out) | exact HB.out))) : w.heap.size ≤ gb478)); have n5_ := Aside0.mk ((by rw [hg]; exact (below_size (by repeat (first | (with_reducible first | exact HB.out | apply below_alloc | apply pw_below_drewN | apply below_drew1 | refine below_set ?_ GE465.out | refine below_set ?_ GE474.out) | exact HB.out))) : w.heap.size ≤ gb478)); have n6_ := Aside0.mk ((by rw [hg]; exact Nat.ne_of_lt (blk_lt (g := gb465) (o := .cells #[.string t466, .int .i64 t467] 23 (0, 0)) (by (with_reducible repeat (first | refine blk_drewN ?_ _ | refine blk_drew ?_ | refine blk_alloc ?_ _)); exact BK465.out)) : gb465 ≠ gb478)); have n7_ := Aside0.mk ((by rw [hg]; exact Nat.ne_of_gt (blk_lt (g := gb465) (o := .cells #[.string t466, .int .i64 t467] 23 (0, 0)) (by (with_reducible repeat (first | refine blk_drewN ?_ _ | refine blk_drew ?_ | refine blk_alloc ?_ _)); exact BK465.out)) : gb478 ≠ gb465)); have n8_ := Aside0.mk ((by rw [hg]; exact Nat.ne_of_lt (blk_lt (g := gb474) (o := .cells #[.string t471, .int .i64 t472] 23 (0, 0)) (by (with_reducible repeat (first | refine blk_drewN ?_ _ | refine blk_drew ?_ | refine blk_alloc ?_ _)); exact BK474.out)) : gb474 ≠ gb478)); have n9_ := Aside0.mk ((by rw [hg]; exact Nat.ne_of_gt (blk_lt (g := gb474) (o := .cells #[.string t471, .int .i64 t472] 23 (0, 0)) (by (with_reducible repeat (first | refine blk_drewN ?_ _ | refine blk_drew ?_ | refine blk_alloc ?_ _)); exact BK474.out)) : gb478 ≠ gb474)); clear BK465; clear BK474; clear HB; have BK465 := n0_; have BK474 := n1_; have HB := n2_; have BK478 := n3_; have GW478 := n4_; have GE478 := n5_; have NB465_478 := n6_; have NB478_465 := n7_; have NB474_478 := n8_; have NB478_474 := n9_; clear n0_ n1_ n2_ n3_ n4_ n5_ n6_ n7_ n8_ n9_; clear hb hbox hg; have hnb40 := NB478_465.out; have hnc40 := NB465_478.out; have hnb41 := NB478_474.out; have hnc41 := NB474_478.out; have hcz42_0 : w39.cell? ⟨gb478, 0, none⟩ = some (.string (⟨#[]⟩ : ByteArray)) := (blk_cell BK478.out 0).trans rfl; have hcz42_1 : w39.cell? ⟨gb478, 1, none⟩ = some (.int .i64 0) := (blk_cell BK478.out 1).trans rfl; have hfz42_0 := blk_frozen BK478.out 0; have hfz42_1 := blk_frozen BK478.out 1; have hcz43_0 : w39.cell? ⟨gb465, 0, none⟩ = some (.string t466) := (blk_cell BK465.out 0).trans rfl; have hcz43_1 : w39.cell? ⟨gb465, 1, none⟩ = some (.int .i64 t467) := (blk_cell BK465.out 1).trans rfl; have hfz43_0 := blk_frozen BK465.out 0; have hfz43_1 := blk_frozen BK465.out 1) | ((with_reducible refine gate_callee (f := 20) rfl ?_); refine goesL_ (some 69) rfl rfl Tryd.func20 (by kernel_rfl) rfl #[.agg #[.string t466, .int .i64 t467], .int .i64 (wrap64 ((ji28) - t467))] rfl (by (try simp only [List.map_toArray, List.map_cons, List.map_nil]); first | done | (simp only [hji28]; rfl) | rfl | (simp only [List.length_drop, List.length_take]; rfl)) ?_; (with_reducible refine (bigdec_Places.calls kj3 t466 t467 (wrap64 ((ji28) - t467)) t479 t480 t481 _ A31.out).mono ?_); rintro e w44 ⟨rfl, hb⟩; refine ⟨_, rfl, ?_⟩; have n0_ := Aside0.mk (blk_below (g := gb465) (o := .cells #[.string t466, .int .i64 t467] 23 (0, 0)) (by (with_reducible repeat (first | refine blk_drewN ?_ _ | refine blk_drew ?_ | refine blk_alloc ?_ _)); refine blk_far ?_ NB465_478.out _; (with_reducible repeat (first | refine blk_drewN ?_ _ | refine blk_drew ?_ | refine blk_alloc ?_ _)); refine blk_far ?_ NB465_478.out _; (with_reducible repeat (first | refine blk_drewN ?_ _ | refine blk_drew ?_ | refine blk_alloc ?_ _)); exact BK465.out) hb); have n1_ := Aside0.mk (blk_below (g := gb474) (o := .cells #[.string t471, .int .i64 t472] 23 (0, 0)) (by (with_reducible repeat (first | refine blk_drewN ?_ _ | refine blk_drew ?_ | refine blk_alloc ?_ _)); refine blk_far ?_ NB474_478.out _; (with_reducible repeat (first | refine blk_drewN ?_ _ | refine blk_drew ?_ | refine blk_alloc ?_ _)); refine blk_far ?_ NB474_478.out _; (with_reducible repeat (first | refine blk_drewN ?_ _ | refine blk_drew ?_ | refine blk_alloc ?_ _)); exact BK474.out) hb); have n2_ := Aside0.mk (blk_below (g := gb478) (o := .cells #[.string t475, .int .i64 t476] 23 (0, 0)) (by (with_reducible repeat (first | refine blk_drewN ?_ _ | refine blk_drew ?_ | refine blk_alloc ?_ _)); refine blk_put (cs := #[.string t475, .int .i64 0]) ?_ 1 _ rfl; (with_reducible repeat (first | refine blk_drewN ?_ _ | refine blk_drew ?_ | refine blk_alloc ?_ _)); refine blk_put (cs := #[.string (⟨#[]⟩ : ByteArray), .int .i64 0]) ?_ 0 _ rfl; (with_reducible repeat (first | refine blk_drewN ?_ _ | refine blk_drew ?_ | refine blk_alloc ?_ _)); exact BK478.out) hb); have n3_ := Aside0.mk (below_step (by repeat (first | (with_reducible first | exact HB.out | apply below_alloc | apply pw_below_drewN | apply below_drew1 | refine below_set ?_ GE465.out | refine below_set ?_ GE474.out | refine below_set ?_ GE478.out) | exact HB.out)) hb); clear BK465; clear BK474; clear BK478; clear HB; have BK465 := n0_; have BK474 := n1_; have BK478 := n2_; have HB := n3_; clear n0_ n1_ n2_ n3_; (try clear hb); (try clear hb2); (try clear hk); (try clear hi)) | ((with_reducible refine gate_dst (N := 10) rfl ?_); (try (refine gate_guard (by rfl) ?_; dsimp only)); refine box_event ?hg (N := 10) ?hd (cs := #[.string (⟨#[]⟩ : ByteArray), .int .i64 0]) (t := 23) ?hr ?_; (case hd => rfl); (case hg => rfl); (case hr => first | (go_simp; done) | (go_simp; rfl)); intro gb482 hg w45 hbox hb; have n0_ := Aside0.mk (blk_below (g := gb465) (o := .cells #[.string t466, .int .i64 t467] 23 (0, 0)) (by (with_reducible repeat (first | refine blk_drewN ?_ _ | refine blk_drew ?_ | refine blk_alloc ?_ _)); exact BK465.out) hb); have n1_ := Aside0.mk (blk_below (g := gb474) (o := .cells #[.string t471, .int .i64 t472] 23 (0, 0)) (by (with_reducible repeat (first | refine blk_drewN ?_ _ | refine blk_drew ?_ | refine blk_alloc ?_ _)); exact BK474.out) hb); have n2_ := Aside0.mk (blk_below (g := gb478) (o := .cells #[.string t475, .int .i64 t476] 23 (0, 0)) (by (with_reducible repeat (first | refine blk_drewN ?_ _ | refine blk_drew ?_ | refine blk_alloc ?_ _)); exact BK478.out) hb); have n3_ := Aside0.mk (below_step (by repeat (first | (with_reducible first | exact HB.out | apply below_alloc | apply pw_below_drewN | apply below_drew1 | refine below_set ?_ GE465.out | refine below_set ?_ GE474.out | refine below_set ?_ GE478.out) | exact HB.out)) hb); have n4_ := Aside0.mk (hbox); have n5_ := Aside0.mk ((by rw [hg]; exact (below_size (by repeat (first | (with_reducible first | exact HB.out | apply below_alloc | apply pw_below_drewN | apply below_drew1 | refine below_set ?_ GE465.out | refine below_set ?_ GE474.out | refine below_set ?_ GE478.out) | exact HB.out))) : w.heap.size ≤ gb482)); have n6_ := Aside0.mk ((by rw [hg]; exact (below_size (by repeat (first | (with_reducible first | exact HB.out | apply below_alloc | apply pw_below_drewN | apply below_drew1 | refine below_set ?_ GE465.out | refine below_set ?_ GE474.out | refine below_set ?_ GE478.out) | exact HB.out))) : w.heap.size ≤ gb482)); have n7_ := Aside0.mk ((by rw [hg]; exact Nat.ne_of_lt (blk_lt (g := gb465) (o := .cells #[.string t466, .int .i64 t467] 23 (0, 0)) (by (with_reducible repeat (first | refine blk_drewN ?_ _ | refine blk_drew ?_ | refine blk_alloc ?_ _)); exact BK465.out)) : gb465 ≠ gb482)); have n8_ := Aside0.mk ((by rw [hg]; exact Nat.ne_of_gt (blk_lt (g := gb465) (o := .cells #[.string t466, .int .i64 t467] 23 (0, 0)) (by (with_reducible repeat (first | refine blk_drewN ?_ _ | refine blk_drew ?_ | refine blk_alloc ?_ _)); exact BK465.out)) : gb482 ≠ gb465)); have n9_ := Aside0.mk ((by rw [hg]; exact Nat.ne_of_lt (blk_lt (g := gb474) (o := .cells #[.string t471, .int .i64 t472] 23 (0, 0)) (by (with_reducible repeat (first | refine blk_drewN ?_ _ | refine blk_drew ?_ | refine blk_alloc ?_ _)); exact BK474.out)) : gb474 ≠ gb482)); have n10_ := Aside0.mk ((by rw [hg]; exact Nat.ne_of_gt (blk_lt (g := gb474) (o := .cells #[.string t471, .int .i64 t472] 23 (0, 0)) (by (with_reducible repeat (first | refine blk_drewN ?_ _ | refine blk_drew ?_ | refine blk_alloc ?_ _)); exact BK474.out)) : gb482 ≠ gb474)); have n11_ := Aside0.mk ((by rw [hg]; exact Nat.ne_of_lt (blk_lt (g := gb478) (o := .cells #[.string t475, .int .i64 t476] 23 (0, 0)) (by (with_reducible repeat (first | refine blk_drewN ?_ _ | refine blk_drew ?_ | refine blk_alloc ?_ _)); exact BK478.out)) : gb478 ≠ gb482)); have n12_ := Aside0.mk ((by rw [hg]; exact Nat.ne_of_gt (blk_lt (g := gb478) (o := .cells #[.string t475, .int .i64 t476] 23 (0, 0)) (by (with_reducible repeat (first | refine blk_drewN ?_ _ | refine blk_drew ?_ | refine blk_alloc ?_ _)); exact BK478.out)) : gb482 ≠ gb478)); clear BK465; clear BK474; clear BK478; clear HB; have BK465 := n0_; have BK474 := n1_; have BK478 := n2_; have HB := n3_; have BK482 := n4_; have GW482 := n5_; have GE482 := n6_; have NB465_482 := n7_; have NB482_465 := n8_; have NB474_482 := n9_; have NB482_474 := n10_; have NB478_482 := n11_; have NB482_478 := n12_; clear n0_ n1_ n2_ n3_ n4_ n5_ n6_ n7_ n8_ n9_ n10_ n11_ n12_; clear hb hbox hg; have hnb46 := NB482_465.out; have hnc46 := NB465_482.out; have hnb47 := NB482_474.out; have hnc47 := NB474_482.out; have hnb48 := NB482_478.out; have hnc48 := NB478_482.out; have hcz49_0 : w45.cell? ⟨gb482, 0, none⟩ = some (.string (⟨#[]⟩ : ByteArray)) := (blk_cell BK482.out 0).trans rfl; have hcz49_1 : w45.cell? ⟨gb482, 1, none⟩ = some (.int .i64 0) := (blk_cell BK482.out 1).trans rfl; have hfz49_0 := blk_frozen BK482.out 0; have hfz49_1 := blk_frozen BK482.out 1))
    (try simp only [Act.put, List.setIfInBounds_toArray, List.set_cons_zero, List.set_cons_succ])
    go_cut [103] (fun v103 wc => ∃ (kq : Nat) (x103_31 : Bool), v103 = .bool x103_31 ∧ Aside0 (platenlaw04_BigdecNear.j1 kq ji28 x103_31 t466 t467 t471 t472 = some r) ∧ Aside0 (kq ≤ kj3) ∧ Aside0 (wc.heap[gb465]? = some (.cells #[.string t466, .int .i64 t467] 23 (0, 0))) ∧ Aside0 (wc.heap[gb474]? = some (.cells #[.string t471, .int .i64 t472] 23 (0, 0))) ∧ Aside0 (wc.heap[gb478]? = some (.cells #[.string t475, .int .i64 t476] 23 (0, 0))) ∧ Aside0 (wc.heap[gb482]? = some (.cells #[.string t479, .int .i64 t480] 23 (0, 0))) ∧ Aside0 (Below w.heap.size w wc))
    case first =>
     have H := HC32.out
     clear HC32
     by_cases c50 : t473 = 0
     ·rw [if_pos c50] at H
      have c50b0 : (t473 == 0) = true := beq_iff_eq.mpr c50
      have c50b1 : (t473 != 0) = false := bne_eq_false_iff_eq.mpr c50
      clear c50
      (first | rw [c50b0] | (simp only [i64_w, i32_w]; rw [c50b0]) | skip)
      by_cases c51 : t477 = 0
      ·rw [if_pos c51] at H
       have c51b0 : (t477 == 0) = true := beq_iff_eq.mpr c51
       have c51b1 : (t477 != 0) = false := bne_eq_false_iff_eq.mpr c51
       clear c51
       by_cases c52 : t481 = 0
       ·rw [if_pos c52] at H
        have c52b0 : (t481 == 0) = true := beq_iff_eq.mpr c52
        have c52b1 : (t481 != 0) = false := bne_eq_false_iff_eq.mpr c52
        clear c52
        by_cases c53 : (!(t471.toList == t479.toList) || (!(t472 == t480))) = true
        ·rw [if_pos c53] at H
         have c53b0 : (!(t471.toList == t479.toList) || (!(t472 == t480))) = true := c53
         clear c53
         have H' := Aside0.mk H
         clear H
         have hnb54 := NB474_465.out
         have hnc54 := NB465_474.out
         have hnb55 := NB474_478.out
         have hnc55 := NB478_474.out
         have hnb56 := NB474_482.out
         have hnc56 := NB482_474.out
         have hcz57_0 : w45.cell? ⟨gb474, 0, none⟩ = some (.string t471) := (blk_cell BK474.out 0).trans rfl
         have hcz57_1 : w45.cell? ⟨gb474, 1, none⟩ = some (.int .i64 t472) := (blk_cell BK474.out 1).trans rfl
         have hfz57_0 := blk_frozen BK474.out 0
         have hfz57_1 := blk_frozen BK474.out 1
         have hnb58 := NB482_465.out
         have hnc58 := NB465_482.out
         have hnb59 := NB482_478.out
         have hnc59 := NB478_482.out
         have hcz60_0 : w45.cell? ⟨gb482, 0, none⟩ = some (.string (⟨#[]⟩ : ByteArray)) := (blk_cell BK482.out 0).trans rfl
         have hcz60_1 : w45.cell? ⟨gb482, 1, none⟩ = some (.int .i64 0) := (blk_cell BK482.out 1).trans rfl
         have hfz60_0 := blk_frozen BK482.out 0
         have hfz60_1 := blk_frozen BK482.out 1
         go_wp2
         go_meet
         case rel => exact ⟨_, (true), (by first | rfl | (simp; done) | (simp [*]; done)), H', ⟨by have := HJ3.out; first | omega | exact Nat.le_refl _⟩, ⟨by (with_reducible repeat (first | refine blk_drewN ?_ _ | refine blk_drew ?_ | refine blk_alloc ?_ _)); refine blk_far ?_ NB465_482.out _; (with_reducible repeat (first | refine blk_drewN ?_ _ | refine blk_drew ?_ | refine blk_alloc ?_ _)); refine blk_far ?_ NB465_482.out _; (with_reducible repeat (first | refine blk_drewN ?_ _ | refine blk_drew ?_ | refine blk_alloc ?_ _)); exact BK465.out⟩, ⟨by (with_reducible repeat (first | refine blk_drewN ?_ _ | refine blk_drew ?_ | refine blk_alloc ?_ _)); refine blk_far ?_ NB474_482.out _; (with_reducible repeat (first | refine blk_drewN ?_ _ | refine blk_drew ?_ | refine blk_alloc ?_ _)); refine blk_far ?_ NB474_482.out _; (with_reducible repeat (first | refine blk_drewN ?_ _ | refine blk_drew ?_ | refine blk_alloc ?_ _)); exact BK474.out⟩, ⟨by (with_reducible repeat (first | refine blk_drewN ?_ _ | refine blk_drew ?_ | refine blk_alloc ?_ _)); refine blk_far ?_ NB478_482.out _; (with_reducible repeat (first | refine blk_drewN ?_ _ | refine blk_drew ?_ | refine blk_alloc ?_ _)); refine blk_far ?_ NB478_482.out _; (with_reducible repeat (first | refine blk_drewN ?_ _ | refine blk_drew ?_ | refine blk_alloc ?_ _)); exact BK478.out⟩, ⟨by (with_reducible repeat (first | refine blk_drewN ?_ _ | refine blk_drew ?_ | refine blk_alloc ?_ _)); refine blk_put (cs := #[.string t479, .int .i64 0]) ?_ 1 _ rfl; (with_reducible repeat (first | refine blk_drewN ?_ _ | refine blk_drew ?_ | refine blk_alloc ?_ _)); refine blk_put (cs := #[.string (⟨#[]⟩ : ByteArray), .int .i64 0]) ?_ 0 _ rfl; (with_reducible repeat (first | refine blk_drewN ?_ _ | refine blk_drew ?_ | refine blk_alloc ?_ _)); exact BK482.out⟩, ⟨by repeat (first | (with_reducible first | exact HB.out | apply below_alloc | apply pw_below_drewN | apply below_drew1 | refine below_set ?_ GE465.out | refine below_set ?_ GE474.out | refine below_set ?_ GE478.out | refine below_set ?_ GE482.out) | exact HB.out)⟩⟩
        ·rw [if_neg c53] at H
         have c53b0 : (!(t471.toList == t479.toList) || (!(t472 == t480))) = false := by simpa using c53
         clear c53
         by_cases c61 : (ji28) > 0
         ·rw [if_pos c61] at H
          have c61b0 : decide (0 < (ji28)) = true := decide_eq_true c61
          clear c61
          by_cases c62 : (!(t471.toList == t475.toList) || (!(t472 == t476))) = true
          ·rw [if_pos c62] at H
           have c62b0 : (!(t471.toList == t475.toList) || (!(t472 == t476))) = true := c62
           clear c62
           have H' := Aside0.mk H
           clear H
           have hnb63 := NB474_465.out
           have hnc63 := NB465_474.out
           have hnb64 := NB474_478.out
           have hnc64 := NB478_474.out
           have hnb65 := NB474_482.out
           have hnc65 := NB482_474.out
           have hcz66_0 : w45.cell? ⟨gb474, 0, none⟩ = some (.string t471) := (blk_cell BK474.out 0).trans rfl
           have hcz66_1 : w45.cell? ⟨gb474, 1, none⟩ = some (.int .i64 t472) := (blk_cell BK474.out 1).trans rfl
           have hfz66_0 := blk_frozen BK474.out 0
           have hfz66_1 := blk_frozen BK474.out 1
           have hnb67 := NB482_465.out
           have hnc67 := NB465_482.out
           have hnb68 := NB482_478.out
           have hnc68 := NB478_482.out
           have hcz69_0 : w45.cell? ⟨gb482, 0, none⟩ = some (.string (⟨#[]⟩ : ByteArray)) := (blk_cell BK482.out 0).trans rfl
           have hcz69_1 : w45.cell? ⟨gb482, 1, none⟩ = some (.int .i64 0) := (blk_cell BK482.out 1).trans rfl
           have hfz69_0 := blk_frozen BK482.out 0
           have hfz69_1 := blk_frozen BK482.out 1
           have hnb70 := NB478_465.out
           have hnc70 := NB465_478.out
           have hcz71_0 : w45.cell? ⟨gb478, 0, none⟩ = some (.string t475) := (blk_cell BK478.out 0).trans rfl
           have hcz71_1 : w45.cell? ⟨gb478, 1, none⟩ = some (.int .i64 t476) := (blk_cell BK478.out 1).trans rfl
           have hfz71_0 := blk_frozen BK478.out 0
           have hfz71_1 := blk_frozen BK478.out 1
           go_wp2
           go_meet
           case rel => exact ⟨_, (true), (by first | rfl | (simp; done) | (simp [*]; done)), H', ⟨by have := HJ3.out; first | omega | exact Nat.le_refl _⟩, ⟨by (with_reducible repeat (first | refine blk_drewN ?_ _ | refine blk_drew ?_ | refine blk_alloc ?_ _)); refine blk_far ?_ NB465_482.out _; (with_reducible repeat (first | refine blk_drewN ?_ _ | refine blk_drew ?_ | refine blk_alloc ?_ _)); refine blk_far ?_ NB465_482.out _; (with_reducible repeat (first | refine blk_drewN ?_ _ | refine blk_drew ?_ | refine blk_alloc ?_ _)); exact BK465.out⟩, ⟨by (with_reducible repeat (first | refine blk_drewN ?_ _ | refine blk_drew ?_ | refine blk_alloc ?_ _)); refine blk_far ?_ NB474_482.out _; (with_reducible repeat (first | refine blk_drewN ?_ _ | refine blk_drew ?_ | refine blk_alloc ?_ _)); refine blk_far ?_ NB474_482.out _; (with_reducible repeat (first | refine blk_drewN ?_ _ | refine blk_drew ?_ | refine blk_alloc ?_ _)); exact BK474.out⟩, ⟨by (with_reducible repeat (first | refine blk_drewN ?_ _ | refine blk_drew ?_ | refine blk_alloc ?_ _)); refine blk_far ?_ NB478_482.out _; (with_reducible repeat (first | refine blk_drewN ?_ _ | refine blk_drew ?_ | refine blk_alloc ?_ _)); refine blk_far ?_ NB478_482.out _; (with_reducible repeat (first | refine blk_drewN ?_ _ | refine blk_drew ?_ | refine blk_alloc ?_ _)); exact BK478.out⟩, ⟨by (with_reducible repeat (first | refine blk_drewN ?_ _ | refine blk_drew ?_ | refine blk_alloc ?_ _)); refine blk_put (cs := #[.string t479, .int .i64 0]) ?_ 1 _ rfl; (with_reducible repeat (first | refine blk_drewN ?_ _ | refine blk_drew ?_ | refine blk_alloc ?_ _)); refine blk_put (cs := #[.string (⟨#[]⟩ : ByteArray), .int .i64 0]) ?_ 0 _ rfl; (with_reducible repeat (first | refine blk_drewN ?_ _ | refine blk_drew ?_ | refine blk_alloc ?_ _)); exact BK482.out⟩, ⟨by repeat (first | (with_reducible first | exact HB.out | apply below_alloc | apply pw_below_drewN | apply below_drew1 | refine below_set ?_ GE465.out | refine below_set ?_ GE474.out | refine below_set ?_ GE478.out | refine below_set ?_ GE482.out) | exact HB.out)⟩⟩
          ·rw [if_neg c62] at H
           have c62b0 : (!(t471.toList == t475.toList) || (!(t472 == t476))) = false := by simpa using c62
           clear c62
           obtain ⟨ji72, hji72⟩ : ∃ j_ : Int, (mx (ji28) 1) = j_ := ⟨_, rfl⟩
           replace H : (platenlaw04_BigdecNear.j1 kj3 ji28 (decide ((t471.size : Int) > (ji72))) t466 t467 t471 t472) = some r := by first | (rw [hji72] at H; exact H) | (simp only [hji72] at H ⊢; exact H)
           have hji72_ : (if (ji28) < 1 then 1 else (ji28)) = ji72 := hji72
           have H' := Aside0.mk H
           clear H
           have hnb73 := NB474_465.out
           have hnc73 := NB465_474.out
           have hnb74 := NB474_478.out
           have hnc74 := NB478_474.out
           have hnb75 := NB474_482.out
           have hnc75 := NB482_474.out
           have hcz76_0 : w45.cell? ⟨gb474, 0, none⟩ = some (.string t471) := (blk_cell BK474.out 0).trans rfl
           have hcz76_1 : w45.cell? ⟨gb474, 1, none⟩ = some (.int .i64 t472) := (blk_cell BK474.out 1).trans rfl
           have hfz76_0 := blk_frozen BK474.out 0
           have hfz76_1 := blk_frozen BK474.out 1
           have hnb77 := NB482_465.out
           have hnc77 := NB465_482.out
           have hnb78 := NB482_478.out
           have hnc78 := NB478_482.out
           have hcz79_0 : w45.cell? ⟨gb482, 0, none⟩ = some (.string (⟨#[]⟩ : ByteArray)) := (blk_cell BK482.out 0).trans rfl
           have hcz79_1 : w45.cell? ⟨gb482, 1, none⟩ = some (.int .i64 0) := (blk_cell BK482.out 1).trans rfl
           have hfz79_0 := blk_frozen BK482.out 0
           have hfz79_1 := blk_frozen BK482.out 1
           have hnb80 := NB478_465.out
           have hnc80 := NB465_478.out
           have hcz81_0 : w45.cell? ⟨gb478, 0, none⟩ = some (.string t475) := (blk_cell BK478.out 0).trans rfl
           have hcz81_1 : w45.cell? ⟨gb478, 1, none⟩ = some (.int .i64 t476) := (blk_cell BK478.out 1).trans rfl
           have hfz81_0 := blk_frozen BK478.out 0
           have hfz81_1 := blk_frozen BK478.out 1
           go_wp2
           go_meet
           case rel => exact ⟨_, (decide ((t471.size : Int) > (ji72))), (by first | rfl | (simp; done) | (simp only [← hji72] <;> (first | rfl | simp)) | (simp [*]; done)), H', ⟨by have := HJ3.out; first | omega | exact Nat.le_refl _⟩, ⟨by (with_reducible repeat (first | refine blk_drewN ?_ _ | refine blk_drew ?_ | refine blk_alloc ?_ _)); refine blk_far ?_ NB465_482.out _; (with_reducible repeat (first | refine blk_drewN ?_ _ | refine blk_drew ?_ | refine blk_alloc ?_ _)); refine blk_far ?_ NB465_482.out _; (with_reducible repeat (first | refine blk_drewN ?_ _ | refine blk_drew ?_ | refine blk_alloc ?_ _)); exact BK465.out⟩, ⟨by (with_reducible repeat (first | refine blk_drewN ?_ _ | refine blk_drew ?_ | refine blk_alloc ?_ _)); refine blk_far ?_ NB474_482.out _; (with_reducible repeat (first | refine blk_drewN ?_ _ | refine blk_drew ?_ | refine blk_alloc ?_ _)); refine blk_far ?_ NB474_482.out _; (with_reducible repeat (first | refine blk_drewN ?_ _ | refine blk_drew ?_ | refine blk_alloc ?_ _)); exact BK474.out⟩, ⟨by (with_reducible repeat (first | refine blk_drewN ?_ _ | refine blk_drew ?_ | refine blk_alloc ?_ _)); refine blk_far ?_ NB478_482.out _; (with_reducible repeat (first | refine blk_drewN ?_ _ | refine blk_drew ?_ | refine blk_alloc ?_ _)); refine blk_far ?_ NB478_482.out _; (with_reducible repeat (first | refine blk_drewN ?_ _ | refine blk_drew ?_ | refine blk_alloc ?_ _)); exact BK478.out⟩, ⟨by (with_reducible repeat (first | refine blk_drewN ?_ _ | refine blk_drew ?_ | refine blk_alloc ?_ _)); refine blk_put (cs := #[.string t479, .int .i64 0]) ?_ 1 _ rfl; (with_reducible repeat (first | refine blk_drewN ?_ _ | refine blk_drew ?_ | refine blk_alloc ?_ _)); refine blk_put (cs := #[.string (⟨#[]⟩ : ByteArray), .int .i64 0]) ?_ 0 _ rfl; (with_reducible repeat (first | refine blk_drewN ?_ _ | refine blk_drew ?_ | refine blk_alloc ?_ _)); exact BK482.out⟩, ⟨by repeat (first | (with_reducible first | exact HB.out | apply below_alloc | apply pw_below_drewN | apply below_drew1 | refine below_set ?_ GE465.out | refine below_set ?_ GE474.out | refine below_set ?_ GE478.out | refine below_set ?_ GE482.out) | exact HB.out)⟩⟩
         ·rw [if_neg c61] at H
          have c61b0 : decide (0 < (ji28)) = false := decide_eq_false c61
          clear c61
          obtain ⟨ji82, hji82⟩ : ∃ j_ : Int, (mx (ji28) 1) = j_ := ⟨_, rfl⟩
          replace H : (platenlaw04_BigdecNear.j1 kj3 ji28 (decide ((t471.size : Int) > (ji82))) t466 t467 t471 t472) = some r := by first | (rw [hji82] at H; exact H) | (simp only [hji82] at H ⊢; exact H)
          have hji82_ : (if (ji28) < 1 then 1 else (ji28)) = ji82 := hji82
          have H' := Aside0.mk H
          clear H
          have hnb83 := NB474_465.out
          have hnc83 := NB465_474.out
          have hnb84 := NB474_478.out
          have hnc84 := NB478_474.out
          have hnb85 := NB474_482.out
          have hnc85 := NB482_474.out
          have hcz86_0 : w45.cell? ⟨gb474, 0, none⟩ = some (.string t471) := (blk_cell BK474.out 0).trans rfl
          have hcz86_1 : w45.cell? ⟨gb474, 1, none⟩ = some (.int .i64 t472) := (blk_cell BK474.out 1).trans rfl
          have hfz86_0 := blk_frozen BK474.out 0
          have hfz86_1 := blk_frozen BK474.out 1
          have hnb87 := NB482_465.out
          have hnc87 := NB465_482.out
          have hnb88 := NB482_478.out
          have hnc88 := NB478_482.out
          have hcz89_0 : w45.cell? ⟨gb482, 0, none⟩ = some (.string (⟨#[]⟩ : ByteArray)) := (blk_cell BK482.out 0).trans rfl
          have hcz89_1 : w45.cell? ⟨gb482, 1, none⟩ = some (.int .i64 0) := (blk_cell BK482.out 1).trans rfl
          have hfz89_0 := blk_frozen BK482.out 0
          have hfz89_1 := blk_frozen BK482.out 1
          go_wp2
          go_meet
          case rel => exact ⟨_, (decide ((t471.size : Int) > (ji82))), (by first | rfl | (simp; done) | (simp only [← hji82] <;> (first | rfl | simp)) | (simp [*]; done)), H', ⟨by have := HJ3.out; first | omega | exact Nat.le_refl _⟩, ⟨by (with_reducible repeat (first | refine blk_drewN ?_ _ | refine blk_drew ?_ | refine blk_alloc ?_ _)); refine blk_far ?_ NB465_482.out _; (with_reducible repeat (first | refine blk_drewN ?_ _ | refine blk_drew ?_ | refine blk_alloc ?_ _)); refine blk_far ?_ NB465_482.out _; (with_reducible repeat (first | refine blk_drewN ?_ _ | refine blk_drew ?_ | refine blk_alloc ?_ _)); exact BK465.out⟩, ⟨by (with_reducible repeat (first | refine blk_drewN ?_ _ | refine blk_drew ?_ | refine blk_alloc ?_ _)); refine blk_far ?_ NB474_482.out _; (with_reducible repeat (first | refine blk_drewN ?_ _ | refine blk_drew ?_ | refine blk_alloc ?_ _)); refine blk_far ?_ NB474_482.out _; (with_reducible repeat (first | refine blk_drewN ?_ _ | refine blk_drew ?_ | refine blk_alloc ?_ _)); exact BK474.out⟩, ⟨by (with_reducible repeat (first | refine blk_drewN ?_ _ | refine blk_drew ?_ | refine blk_alloc ?_ _)); refine blk_far ?_ NB478_482.out _; (with_reducible repeat (first | refine blk_drewN ?_ _ | refine blk_drew ?_ | refine blk_alloc ?_ _)); refine blk_far ?_ NB478_482.out _; (with_reducible repeat (first | refine blk_drewN ?_ _ | refine blk_drew ?_ | refine blk_alloc ?_ _)); exact BK478.out⟩, ⟨by (with_reducible repeat (first | refine blk_drewN ?_ _ | refine blk_drew ?_ | refine blk_alloc ?_ _)); refine blk_put (cs := #[.string t479, .int .i64 0]) ?_ 1 _ rfl; (with_reducible repeat (first | refine blk_drewN ?_ _ | refine blk_drew ?_ | refine blk_alloc ?_ _)); refine blk_put (cs := #[.string (⟨#[]⟩ : ByteArray), .int .i64 0]) ?_ 0 _ rfl; (with_reducible repeat (first | refine blk_drewN ?_ _ | refine blk_drew ?_ | refine blk_alloc ?_ _)); exact BK482.out⟩, ⟨by repeat (first | (with_reducible first | exact HB.out | apply below_alloc | apply pw_below_drewN | apply below_drew1 | refine below_set ?_ GE465.out | refine below_set ?_ GE474.out | refine below_set ?_ GE478.out | refine below_set ?_ GE482.out) | exact HB.out)⟩⟩
       ·rw [if_neg c52] at H
        have c52b0 : (t481 == 0) = false := beq_eq_false_iff_ne.mpr c52
        have c52b1 : (t481 != 0) = true := bne_iff_ne.mpr c52
        have H' := Aside0.mk H
        clear H
        go_wp2
        go_meet
        case rel => exact ⟨_, (true), (by first | rfl | (simp; done) | (simp [*]; done)), H', ⟨by have := HJ3.out; first | omega | exact Nat.le_refl _⟩, ⟨by (with_reducible repeat (first | refine blk_drewN ?_ _ | refine blk_drew ?_ | refine blk_alloc ?_ _)); refine blk_far ?_ NB465_482.out _; (with_reducible repeat (first | refine blk_drewN ?_ _ | refine blk_drew ?_ | refine blk_alloc ?_ _)); refine blk_far ?_ NB465_482.out _; (with_reducible repeat (first | refine blk_drewN ?_ _ | refine blk_drew ?_ | refine blk_alloc ?_ _)); exact BK465.out⟩, ⟨by (with_reducible repeat (first | refine blk_drewN ?_ _ | refine blk_drew ?_ | refine blk_alloc ?_ _)); refine blk_far ?_ NB474_482.out _; (with_reducible repeat (first | refine blk_drewN ?_ _ | refine blk_drew ?_ | refine blk_alloc ?_ _)); refine blk_far ?_ NB474_482.out _; (with_reducible repeat (first | refine blk_drewN ?_ _ | refine blk_drew ?_ | refine blk_alloc ?_ _)); exact BK474.out⟩, ⟨by (with_reducible repeat (first | refine blk_drewN ?_ _ | refine blk_drew ?_ | refine blk_alloc ?_ _)); refine blk_far ?_ NB478_482.out _; (with_reducible repeat (first | refine blk_drewN ?_ _ | refine blk_drew ?_ | refine blk_alloc ?_ _)); refine blk_far ?_ NB478_482.out _; (with_reducible repeat (first | refine blk_drewN ?_ _ | refine blk_drew ?_ | refine blk_alloc ?_ _)); exact BK478.out⟩, ⟨by (with_reducible repeat (first | refine blk_drewN ?_ _ | refine blk_drew ?_ | refine blk_alloc ?_ _)); refine blk_put (cs := #[.string t479, .int .i64 0]) ?_ 1 _ rfl; (with_reducible repeat (first | refine blk_drewN ?_ _ | refine blk_drew ?_ | refine blk_alloc ?_ _)); refine blk_put (cs := #[.string (⟨#[]⟩ : ByteArray), .int .i64 0]) ?_ 0 _ rfl; (with_reducible repeat (first | refine blk_drewN ?_ _ | refine blk_drew ?_ | refine blk_alloc ?_ _)); exact BK482.out⟩, ⟨by repeat (first | (with_reducible first | exact HB.out | apply below_alloc | apply pw_below_drewN | apply below_drew1 | refine below_set ?_ GE465.out | refine below_set ?_ GE474.out | refine below_set ?_ GE478.out | refine below_set ?_ GE482.out) | exact HB.out)⟩⟩
      ·rw [if_neg c51] at H
       have c51b0 : (t477 == 0) = false := beq_eq_false_iff_ne.mpr c51
       have c51b1 : (t477 != 0) = true := bne_iff_ne.mpr c51
       have H' := Aside0.mk H
       clear H
       go_wp2
       go_meet
       case rel => exact ⟨_, (true), (by first | rfl | (simp; done) | (simp [*]; done)), H', ⟨by have := HJ3.out; first | omega | exact Nat.le_refl _⟩, ⟨by (with_reducible repeat (first | refine blk_drewN ?_ _ | refine blk_drew ?_ | refine blk_alloc ?_ _)); refine blk_far ?_ NB465_482.out _; (with_reducible repeat (first | refine blk_drewN ?_ _ | refine blk_drew ?_ | refine blk_alloc ?_ _)); refine blk_far ?_ NB465_482.out _; (with_reducible repeat (first | refine blk_drewN ?_ _ | refine blk_drew ?_ | refine blk_alloc ?_ _)); exact BK465.out⟩, ⟨by (with_reducible repeat (first | refine blk_drewN ?_ _ | refine blk_drew ?_ | refine blk_alloc ?_ _)); refine blk_far ?_ NB474_482.out _; (with_reducible repeat (first | refine blk_drewN ?_ _ | refine blk_drew ?_ | refine blk_alloc ?_ _)); refine blk_far ?_ NB474_482.out _; (with_reducible repeat (first | refine blk_drewN ?_ _ | refine blk_drew ?_ | refine blk_alloc ?_ _)); exact BK474.out⟩, ⟨by (with_reducible repeat (first | refine blk_drewN ?_ _ | refine blk_drew ?_ | refine blk_alloc ?_ _)); refine blk_far ?_ NB478_482.out _; (with_reducible repeat (first | refine blk_drewN ?_ _ | refine blk_drew ?_ | refine blk_alloc ?_ _)); refine blk_far ?_ NB478_482.out _; (with_reducible repeat (first | refine blk_drewN ?_ _ | refine blk_drew ?_ | refine blk_alloc ?_ _)); exact BK478.out⟩, ⟨by (with_reducible repeat (first | refine blk_drewN ?_ _ | refine blk_drew ?_ | refine blk_alloc ?_ _)); refine blk_put (cs := #[.string t479, .int .i64 0]) ?_ 1 _ rfl; (with_reducible repeat (first | refine blk_drewN ?_ _ | refine blk_drew ?_ | refine blk_alloc ?_ _)); refine blk_put (cs := #[.string (⟨#[]⟩ : ByteArray), .int .i64 0]) ?_ 0 _ rfl; (with_reducible repeat (first | refine blk_drewN ?_ _ | refine blk_drew ?_ | refine blk_alloc ?_ _)); exact BK482.out⟩, ⟨by repeat (first | (with_reducible first | exact HB.out | apply below_alloc | apply pw_below_drewN | apply below_drew1 | refine below_set ?_ GE465.out | refine below_set ?_ GE474.out | refine below_set ?_ GE478.out | refine below_set ?_ GE482.out) | exact HB.out)⟩⟩
     ·rw [if_neg c50] at H
      have c50b0 : (t473 == 0) = false := beq_eq_false_iff_ne.mpr c50
      have c50b1 : (t473 != 0) = true := bne_iff_ne.mpr c50
      (first | rw [c50b0] | (simp only [i64_w, i32_w]; rw [c50b0]) | skip)
      have H' := Aside0.mk H
      clear H
      go_wp2
      go_meet
      case rel => exact ⟨_, (true), (by first | rfl | (simp; done) | (simp [*]; done)), H', ⟨by have := HJ3.out; first | omega | exact Nat.le_refl _⟩, ⟨by (with_reducible repeat (first | refine blk_drewN ?_ _ | refine blk_drew ?_ | refine blk_alloc ?_ _)); refine blk_far ?_ NB465_482.out _; (with_reducible repeat (first | refine blk_drewN ?_ _ | refine blk_drew ?_ | refine blk_alloc ?_ _)); refine blk_far ?_ NB465_482.out _; (with_reducible repeat (first | refine blk_drewN ?_ _ | refine blk_drew ?_ | refine blk_alloc ?_ _)); exact BK465.out⟩, ⟨by (with_reducible repeat (first | refine blk_drewN ?_ _ | refine blk_drew ?_ | refine blk_alloc ?_ _)); refine blk_far ?_ NB474_482.out _; (with_reducible repeat (first | refine blk_drewN ?_ _ | refine blk_drew ?_ | refine blk_alloc ?_ _)); refine blk_far ?_ NB474_482.out _; (with_reducible repeat (first | refine blk_drewN ?_ _ | refine blk_drew ?_ | refine blk_alloc ?_ _)); exact BK474.out⟩, ⟨by (with_reducible repeat (first | refine blk_drewN ?_ _ | refine blk_drew ?_ | refine blk_alloc ?_ _)); refine blk_far ?_ NB478_482.out _; (with_reducible repeat (first | refine blk_drewN ?_ _ | refine blk_drew ?_ | refine blk_alloc ?_ _)); refine blk_far ?_ NB478_482.out _; (with_reducible repeat (first | refine blk_drewN ?_ _ | refine blk_drew ?_ | refine blk_alloc ?_ _)); exact BK478.out⟩, ⟨by (with_reducible repeat (first | refine blk_drewN ?_ _ | refine blk_drew ?_ | refine blk_alloc ?_ _)); refine blk_put (cs := #[.string t479, .int .i64 0]) ?_ 1 _ rfl; (with_reducible repeat (first | refine blk_drewN ?_ _ | refine blk_drew ?_ | refine blk_alloc ?_ _)); refine blk_put (cs := #[.string (⟨#[]⟩ : ByteArray), .int .i64 0]) ?_ 0 _ rfl; (with_reducible repeat (first | refine blk_drewN ?_ _ | refine blk_drew ?_ | refine blk_alloc ?_ _)); exact BK482.out⟩, ⟨by repeat (first | (with_reducible first | exact HB.out | apply below_alloc | apply pw_below_drewN | apply below_drew1 | refine below_set ?_ GE465.out | refine below_set ?_ GE474.out | refine below_set ?_ GE478.out | refine below_set ?_ GE482.out) | exact HB.out)⟩⟩
    case rest =>
     clear HC32
     try clear c9
     try clear c9b0
     try clear c9b1
     try clear c10
     try clear c10b0
     try clear c10b1
     try clear c12
     try clear c12b0
     try clear c15
     try clear c16
     try clear c16b0
     try clear c16b1
     try clear c16b2
     try clear c17
     try clear c17b0
     try clear c22
     try clear c22b0
     try clear c22b1
     try clear c22b2
     try clear c50
     try clear c50b0
     try clear c50b1
     try clear c51
     try clear c51b0
     try clear c51b1
     try clear c52
     try clear c52b0
     try clear c52b1
     try clear c53
     try clear c53b0
     try clear c61
     try clear c61b0
     try clear c62
     try clear c62b0
     try clear hcz11_0
     try clear hcz11_1
     try clear hcz13_0
     try clear hcz13_1
     try clear hcz14_0
     try clear hcz14_1
     try clear hcz19_0
     try clear hcz19_1
     try clear hcz24_0
     try clear hcz24_1
     try clear hcz26_0
     try clear hcz26_1
     try clear hcz33_0
     try clear hcz33_1
     try clear hcz37_0
     try clear hcz37_1
     try clear hcz42_0
     try clear hcz42_1
     try clear hcz43_0
     try clear hcz43_1
     try clear hcz49_0
     try clear hcz49_1
     try clear hcz57_0
     try clear hcz57_1
     try clear hcz60_0
     try clear hcz60_1
     try clear hcz66_0
     try clear hcz66_1
     try clear hcz69_0
     try clear hcz69_1
     try clear hcz6_0
     try clear hcz6_1
     try clear hcz71_0
     try clear hcz71_1
     try clear hcz76_0
     try clear hcz76_1
     try clear hcz79_0
     try clear hcz79_1
     try clear hcz81_0
     try clear hcz81_1
     try clear hcz86_0
     try clear hcz86_1
     try clear hcz89_0
     try clear hcz89_1
     try clear hcz8_0
     try clear hcz8_1
     try clear hfz11_0
     try clear hfz11_1
     try clear hfz13_0
     try clear hfz13_1
     try clear hfz14_0
     try clear hfz14_1
     try clear hfz19_0
     try clear hfz19_1
     try clear hfz24_0
     try clear hfz24_1
     try clear hfz26_0
     try clear hfz26_1
     try clear hfz33_0
     try clear hfz33_1
     try clear hfz37_0
     try clear hfz37_1
     try clear hfz42_0
     try clear hfz42_1
     try clear hfz43_0
     try clear hfz43_1
     try clear hfz49_0
     try clear hfz49_1
     try clear hfz57_0
     try clear hfz57_1
     try clear hfz60_0
     try clear hfz60_1
     try clear hfz66_0
     try clear hfz66_1
     try clear hfz69_0
     try clear hfz69_1
     try clear hfz6_0
     try clear hfz6_1
     try clear hfz71_0
     try clear hfz71_1
     try clear hfz76_0
     try clear hfz76_1
     try clear hfz79_0
     try clear hfz79_1
     try clear hfz81_0
     try clear hfz81_1
     try clear hfz86_0
     try clear hfz86_1
     try clear hfz89_0
     try clear hfz89_1
     try clear hfz8_0
     try clear hfz8_1
     obtain ⟨kq, x103_31, rfl, HA, HJ31, BK465, BK474, BK478, BK482, HB⟩ := hcut
     cases kq with
     | zero => exact absurd HA.out (by simp [platenlaw04_BigdecNear.j1])
     | succ kj31 =>
      have H := HA.out
      clear HA
      simp only [platenlaw04_BigdecNear.j1] at H
      by_cases c90 : x103_31 = true
      ·subst c90
       have H1 : (some false) = some r := by rw [if_pos rfl] at H; exact H
       clear H
       have H := H1
       clear H1
       obtain rfl := Option.some.inj H
       go_wp2
       go_ret
       exact ⟨by first | rfl | (simp [errW_none, errW_some] <;> rfl) | (simp only [← hji27, ← hji28]; first | rfl | (simp [errW_none, errW_some] <;> rfl)) | (simp [*, errW_none, errW_some] <;> rfl), by repeat (first | (with_reducible first | exact HB.out | apply below_alloc | apply pw_below_drewN | apply below_drew1 | refine below_set ?_ GE465.out | refine below_set ?_ GE474.out | refine below_set ?_ GE478.out | refine below_set ?_ GE482.out) | exact HB.out)⟩
      ·replace c90 := Bool.eq_false_iff.mpr c90
       subst c90
       have H1 : ((platenlaw04_half.f kj31 t471 t472 t466 t467 (wrap64 (t467 - ji28))).bind fun t483 => (if t483 = true then ((platenlaw04_lives.f kj31).bind fun t484 => (some t484)) else (some false))) = some r := by rw [if_neg (show ¬ (false = true) by decide)] at H; exact H
       clear H
       have H := H1
       clear H1
       replace H := Option.bind_eq_some_iff.mp H
       obtain ⟨t483, A910, H⟩ := H
       replace H : (if t483 = true then ((platenlaw04_lives.f kj31).bind fun t484 => (some t484)) else (some false)) = some r := H
       have A91 := Aside0.mk A910
       clear A910
       by_cases c92 : t483 = true
       ·subst c92
        have H1 : ((platenlaw04_lives.f kj31).bind fun t484 => (some t484)) = some r := by rw [if_pos rfl] at H; exact H
        clear H
        have H := H1
        clear H1
        replace H := Option.bind_eq_some_iff.mp H
        obtain ⟨t484, A930, H⟩ := H
        replace H : (some t484) = some r := H
        have A93 := Aside0.mk A930
        clear A930
        obtain rfl := Option.some.inj H
        have hnb94 := NB474_465.out
        have hnc94 := NB465_474.out
        have hnb95 := NB474_478.out
        have hnc95 := NB478_474.out
        have hnb96 := NB474_482.out
        have hnc96 := NB482_474.out
        have hcz97_0 : wc.cell? ⟨gb474, 0, none⟩ = some (.string t471) := (blk_cell BK474.out 0).trans rfl
        have hcz97_1 : wc.cell? ⟨gb474, 1, none⟩ = some (.int .i64 t472) := (blk_cell BK474.out 1).trans rfl
        have hfz97_0 := blk_frozen BK474.out 0
        have hfz97_1 := blk_frozen BK474.out 1
        have hnb98 := NB465_478.out
        have hnc98 := NB478_465.out
        have hnb99 := NB465_482.out
        have hnc99 := NB482_465.out
        have hcz100_0 : wc.cell? ⟨gb465, 0, none⟩ = some (.string t466) := (blk_cell BK465.out 0).trans rfl
        have hcz100_1 : wc.cell? ⟨gb465, 1, none⟩ = some (.int .i64 t467) := (blk_cell BK465.out 1).trans rfl
        have hfz100_0 := blk_frozen BK465.out 0
        have hfz100_1 := blk_frozen BK465.out 1
        go_wp2_with (first | ((with_reducible refine gate_callee (f := 26) rfl ?_); refine goesL_ (some 110) rfl rfl Tryd.func26 (by kernel_rfl) rfl #[.agg #[.string t471, .int .i64 t472], .agg #[.string t466, .int .i64 t467], .int .i64 (wrap64 (t467 - ji28))] rfl (by (try simp only [List.map_toArray, List.map_cons, List.map_nil]); first | done | (simp only [hji28]; rfl) | rfl | (simp only [List.length_drop, List.length_take]; rfl)) ?_; (with_reducible refine (platenlaw04_half.calls kj31 t471 t472 t466 t467 (wrap64 (t467 - ji28)) true _ A91.out).mono ?_); rintro e w101 ⟨rfl, hb⟩; refine ⟨_, rfl, ?_⟩; have n0_ := Aside0.mk (blk_below (g := gb465) (o := .cells #[.string t466, .int .i64 t467] 23 (0, 0)) (by (with_reducible repeat (first | refine blk_drewN ?_ _ | refine blk_drew ?_ | refine blk_alloc ?_ _)); exact BK465.out) hb); have n1_ := Aside0.mk (blk_below (g := gb474) (o := .cells #[.string t471, .int .i64 t472] 23 (0, 0)) (by (with_reducible repeat (first | refine blk_drewN ?_ _ | refine blk_drew ?_ | refine blk_alloc ?_ _)); exact BK474.out) hb); have n2_ := Aside0.mk (blk_below (g := gb478) (o := .cells #[.string t475, .int .i64 t476] 23 (0, 0)) (by (with_reducible repeat (first | refine blk_drewN ?_ _ | refine blk_drew ?_ | refine blk_alloc ?_ _)); exact BK478.out) hb); have n3_ := Aside0.mk (blk_below (g := gb482) (o := .cells #[.string t479, .int .i64 t480] 23 (0, 0)) (by (with_reducible repeat (first | refine blk_drewN ?_ _ | refine blk_drew ?_ | refine blk_alloc ?_ _)); exact BK482.out) hb); have n4_ := Aside0.mk (below_step (by repeat (first | (with_reducible first | exact HB.out | apply below_alloc | apply pw_below_drewN | apply below_drew1 | refine below_set ?_ GE465.out | refine below_set ?_ GE474.out | refine below_set ?_ GE478.out | refine below_set ?_ GE482.out) | exact HB.out)) hb); clear BK465; clear BK474; clear BK478; clear BK482; clear HB; have BK465 := n0_; have BK474 := n1_; have BK478 := n2_; have BK482 := n3_; have HB := n4_; clear n0_ n1_ n2_ n3_ n4_; (try clear hb); (try clear hb2); (try clear hk); (try clear hi)) | (go_at_call 15; (with_reducible refine (platenlaw04_lives.calls kj31  t484 _ A93.out).mono ?_); rintro e w102 ⟨rfl, hb⟩; have n0_ := Aside0.mk (blk_below (g := gb465) (o := .cells #[.string t466, .int .i64 t467] 23 (0, 0)) (by (with_reducible repeat (first | refine blk_drewN ?_ _ | refine blk_drew ?_ | refine blk_alloc ?_ _)); exact BK465.out) hb); have n1_ := Aside0.mk (blk_below (g := gb474) (o := .cells #[.string t471, .int .i64 t472] 23 (0, 0)) (by (with_reducible repeat (first | refine blk_drewN ?_ _ | refine blk_drew ?_ | refine blk_alloc ?_ _)); exact BK474.out) hb); have n2_ := Aside0.mk (blk_below (g := gb478) (o := .cells #[.string t475, .int .i64 t476] 23 (0, 0)) (by (with_reducible repeat (first | refine blk_drewN ?_ _ | refine blk_drew ?_ | refine blk_alloc ?_ _)); exact BK478.out) hb); have n3_ := Aside0.mk (blk_below (g := gb482) (o := .cells #[.string t479, .int .i64 t480] 23 (0, 0)) (by (with_reducible repeat (first | refine blk_drewN ?_ _ | refine blk_drew ?_ | refine blk_alloc ?_ _)); exact BK482.out) hb); have n4_ := Aside0.mk (below_step (by repeat (first | (with_reducible first | exact HB.out | apply below_alloc | apply pw_below_drewN | apply below_drew1 | refine below_set ?_ GE465.out | refine below_set ?_ GE474.out | refine below_set ?_ GE478.out | refine below_set ?_ GE482.out) | exact HB.out)) hb); clear BK465; clear BK474; clear BK478; clear BK482; clear HB; have BK465 := n0_; have BK474 := n1_; have BK478 := n2_; have BK482 := n3_; have HB := n4_; clear n0_ n1_ n2_ n3_ n4_; (try clear hb); (try clear hb2); (try clear hk); (try clear hi)))
        go_ret
        exact ⟨by first | rfl | (simp [errW_none, errW_some] <;> rfl) | (simp only [← hji27, ← hji28]; first | rfl | (simp [errW_none, errW_some] <;> rfl)) | (simp [*, errW_none, errW_some] <;> rfl), by repeat (first | (with_reducible first | exact HB.out | apply below_alloc | apply pw_below_drewN | apply below_drew1 | refine below_set ?_ GE465.out | refine below_set ?_ GE474.out | refine below_set ?_ GE478.out | refine below_set ?_ GE482.out) | exact HB.out)⟩
       ·replace c92 := Bool.eq_false_iff.mpr c92
        subst c92
        have H1 : (some false) = some r := by rw [if_neg (show ¬ (false = true) by decide)] at H; exact H
        clear H
        have H := H1
        clear H1
        obtain rfl := Option.some.inj H
        have hnb103 := NB474_465.out
        have hnc103 := NB465_474.out
        have hnb104 := NB474_478.out
        have hnc104 := NB478_474.out
        have hnb105 := NB474_482.out
        have hnc105 := NB482_474.out
        have hcz106_0 : wc.cell? ⟨gb474, 0, none⟩ = some (.string t471) := (blk_cell BK474.out 0).trans rfl
        have hcz106_1 : wc.cell? ⟨gb474, 1, none⟩ = some (.int .i64 t472) := (blk_cell BK474.out 1).trans rfl
        have hfz106_0 := blk_frozen BK474.out 0
        have hfz106_1 := blk_frozen BK474.out 1
        have hnb107 := NB465_478.out
        have hnc107 := NB478_465.out
        have hnb108 := NB465_482.out
        have hnc108 := NB482_465.out
        have hcz109_0 : wc.cell? ⟨gb465, 0, none⟩ = some (.string t466) := (blk_cell BK465.out 0).trans rfl
        have hcz109_1 : wc.cell? ⟨gb465, 1, none⟩ = some (.int .i64 t467) := (blk_cell BK465.out 1).trans rfl
        have hfz109_0 := blk_frozen BK465.out 0
        have hfz109_1 := blk_frozen BK465.out 1
        go_wp2_with (first | ((with_reducible refine gate_callee (f := 26) rfl ?_); refine goesL_ (some 110) rfl rfl Tryd.func26 (by kernel_rfl) rfl #[.agg #[.string t471, .int .i64 t472], .agg #[.string t466, .int .i64 t467], .int .i64 (wrap64 (t467 - ji28))] rfl (by (try simp only [List.map_toArray, List.map_cons, List.map_nil]); first | done | (simp only [hji28]; rfl) | rfl | (simp only [List.length_drop, List.length_take]; rfl)) ?_; (with_reducible refine (platenlaw04_half.calls kj31 t471 t472 t466 t467 (wrap64 (t467 - ji28)) false _ A91.out).mono ?_); rintro e w110 ⟨rfl, hb⟩; refine ⟨_, rfl, ?_⟩; have n0_ := Aside0.mk (blk_below (g := gb465) (o := .cells #[.string t466, .int .i64 t467] 23 (0, 0)) (by (with_reducible repeat (first | refine blk_drewN ?_ _ | refine blk_drew ?_ | refine blk_alloc ?_ _)); exact BK465.out) hb); have n1_ := Aside0.mk (blk_below (g := gb474) (o := .cells #[.string t471, .int .i64 t472] 23 (0, 0)) (by (with_reducible repeat (first | refine blk_drewN ?_ _ | refine blk_drew ?_ | refine blk_alloc ?_ _)); exact BK474.out) hb); have n2_ := Aside0.mk (blk_below (g := gb478) (o := .cells #[.string t475, .int .i64 t476] 23 (0, 0)) (by (with_reducible repeat (first | refine blk_drewN ?_ _ | refine blk_drew ?_ | refine blk_alloc ?_ _)); exact BK478.out) hb); have n3_ := Aside0.mk (blk_below (g := gb482) (o := .cells #[.string t479, .int .i64 t480] 23 (0, 0)) (by (with_reducible repeat (first | refine blk_drewN ?_ _ | refine blk_drew ?_ | refine blk_alloc ?_ _)); exact BK482.out) hb); have n4_ := Aside0.mk (below_step (by repeat (first | (with_reducible first | exact HB.out | apply below_alloc | apply pw_below_drewN | apply below_drew1 | refine below_set ?_ GE465.out | refine below_set ?_ GE474.out | refine below_set ?_ GE478.out | refine below_set ?_ GE482.out) | exact HB.out)) hb); clear BK465; clear BK474; clear BK478; clear BK482; clear HB; have BK465 := n0_; have BK474 := n1_; have BK478 := n2_; have BK482 := n3_; have HB := n4_; clear n0_ n1_ n2_ n3_ n4_; (try clear hb); (try clear hb2); (try clear hk); (try clear hi)))
        go_ret
        exact ⟨by first | rfl | (simp [errW_none, errW_some] <;> rfl) | (simp only [← hji27, ← hji28]; first | rfl | (simp [errW_none, errW_some] <;> rfl)) | (simp [*, errW_none, errW_some] <;> rfl), by repeat (first | (with_reducible first | exact HB.out | apply below_alloc | apply pw_below_drewN | apply below_drew1 | refine below_set ?_ GE465.out | refine below_set ?_ GE474.out | refine below_set ?_ GE478.out | refine below_set ?_ GE482.out) | exact HB.out)⟩
end Go.Proofs.YtobidkjmgkmaoaaDoor.Fn
end
section
namespace Go.Proofs.YtobidkjmgkmaoaaDoor.Pure
open Go.RowKit Go.Proofs.YtobidkjmgkmaoaaDoorW.PrintWords Go.Proofs.YtobidkjmgkmaoaaDoor.Fn
set_option linter.unusedVariables false
set_option linter.unusedSimpArgs false
theorem near_j0_true (n e : Int) (s : ByteArray) (p : Int) (h : e ≠ 0 → s = S [] ∧ p = 0) : Ev (fun k => platenlaw04_BigdecNear.j0 k n e true s p) true := by
  refine Ev.step (fun k => ?_) livesEndH
  simp only [platenlaw04_BigdecNear.j0]
  rw [if_pos trivial]
  by_cases c : (s.toList == ([] : List UInt8) && (p == 0)) = true
  · rw [if_pos c, if_pos (beq_self_eq_true _)]
  · rw [if_neg c]
    have he : e = 0 := by
      by_cases he : e = 0
      · exact he
      · obtain ⟨h1, h2⟩ := h he
        subst h1; subst h2
        exact absurd (show ((S []).toList == ([] : List UInt8) && ((0 : Int) == 0)) = true from by rw [toList_L, L_S]; rfl) c
    rw [if_pos (by rw [he]; rfl)]
theorem round_dec {a : List UInt8} {p : Int} (ha : InForm a p) (hl : a.length ≤ 900) (n : Nat) (hn : n ≤ 1000) :
    ∃ (x y : Nat), roundN a p n = decOf y (p - max (a.length : Int) n) ∧ (a, p) = decOf x (p - max (a.length : Int) n) ∧ x < 10 ^ max a.length n ∧ y ≤ 2 * 10 ^ max a.length n ∧ 2 * max y x ≤ 2 * min y x + 10 ^ (max a.length n - n) := by
  have hT : 0 < 10 ^ max a.length n := Nat.pow_pos (by omega)
  have hE : p - max (a.length : Int) n ≤ p - a.length := by omega
  have hx := (decOf_sv ha hE).symm
  have hxl : sv a p (p - max (a.length : Int) n) < 10 ^ max a.length n := Nat.lt_of_lt_of_le (sv_lt ha.1 hE) (Nat.pow_le_pow_right (by omega) (by omega))
  by_cases c : a.length ≤ n
  · refine ⟨_, _, ?_, hx, hxl, Nat.le_trans (Nat.le_of_lt hxl) (by omega), ?_⟩
    · rw [show roundN a p n = (a, p) by unfold roundN; rw [if_neg (by omega), if_pos (by omega)]]
      exact hx
    · rw [Nat.max_self, Nat.min_self]; exact Nat.le_add_right _ _
  · have hm : max (a.length : Int) n = a.length := by omega
    have hm2 : max a.length n = a.length := by omega
    have hval := sv_cut (a := a) (n := n) (by omega)
    have hrl := val_lt (ha.1.drop n)
    rw [List.length_drop] at hrl
    rw [hm] at hx hxl ⊢
    have hsv : sv a p (p - a.length) = val a := by unfold sv; rw [show (p - (a.length : Int) - (p - a.length)).toNat = 0 by omega, Nat.pow_zero, Nat.mul_one]
    rw [hsv] at hx hxl
    have hsc : ∀ q : Nat, decOf q (p - n) = decOf (q * 10 ^ (a.length - n)) (p - a.length) := by
      intro q
      rw [← decOf_scale q (a.length - n) (p - n)]
      congr 1; omega
    have hr : roundN a p n = if downP a n then decOf (val (a.take n)) (p - n) else decOf (val (a.take n) + 1) (p - n) := by
      unfold roundN
      rw [if_neg (by omega), if_neg (by omega), Int.toNat_natCast]
    have hMl : 10 ^ (a.length - n) ≤ 10 ^ max a.length n := Nat.pow_le_pow_right (by omega) (by omega)
    have hP : 10 ^ max a.length n = 10 ^ a.length := by rw [hm2]
    rw [hr, hm2]
    rw [hP] at hxl hMl hT
    have hq1 : (val (a.take n) + 1) * 10 ^ (a.length - n) = val (a.take n) * 10 ^ (a.length - n) + 10 ^ (a.length - n) := by rw [Nat.add_mul, Nat.one_mul]
    by_cases d : downP a n
    · refine ⟨_, _, by rw [if_pos d, hsc], hx, hxl, by omega, ?_⟩
      have : 2 * val (a.drop n) ≤ 10 ^ (a.length - n) := by
        rcases d with d | ⟨d, _⟩ <;> omega
      omega
    · refine ⟨_, _, by rw [if_neg d, hsc], hx, hxl, by rw [hq1]; omega, ?_⟩
      have : 10 ^ (a.length - n) ≤ 2 * val (a.drop n) := by
        by_cases d2 : 2 * val (a.drop n) < 10 ^ (a.length - n)
        · exact absurd (.inl d2) d
        · omega
      rw [hq1]
      omega
theorem round_len {a : List UInt8} {p : Int} (ha : InForm a p) (n : Nat) : (roundN a p n).1.length ≤ max n 1 ∧ InForm (roundN a p n).1 (roundN a p n).2 := by
  unfold roundN
  rw [if_neg (by omega), Int.toNat_natCast]
  by_cases c : (a.length : Int) ≤ n
  · rw [if_pos c]; exact ⟨by show a.length ≤ _; omega, ha⟩
  · rw [if_neg c]
    have hq := val_lt (ha.1.take n)
    have hql : (a.take n).length = n := by rw [List.length_take]; omega
    rw [hql] at hq
    by_cases d : downP a n
    · rw [if_pos d]
      exact ⟨Nat.le_trans (decOf_bound hq _).1 (by omega), inForm_decOf _ _⟩
    · rw [if_neg d]
      refine ⟨?_, inForm_decOf _ _⟩
      by_cases e : val (a.take n) + 1 < 10 ^ n
      · exact Nat.le_trans (decOf_bound e _).1 (by omega)
      · have h10 : val (a.take n) + 1 = 1 * 10 ^ n := by omega
        have hs := decOf_scale 1 n (p - n + n)
        rw [show p - (n : Int) + n - n = p - n by omega] at hs
        rw [h10, hs]
        exact Nat.le_trans (decOf_bound (m := 1) (by omega) _).1 (by omega)
theorem BigdecNear : ∀ (a0_0 : ByteArray) (a0_1 : Int) (a1 : Int), a0_0.size ≤ maxLen → (Lit.int .i64 a0_1).wf = true → (Lit.int .i64 a1).wf = true → ∃ k, platenlaw04_BigdecNear.f k a0_0 a0_1 a1 = some true := by
  intro s p a1 _ _ _
  have main : Ev (fun k => platenlaw04_BigdecNear.f k s p a1) true := by
    unfold platenlaw04_BigdecNear.f
    refine Ev.bind (norm_eq s p) ?_
    rcases normS_cases s p with ⟨e, h1, h2, _⟩ | ⟨l, u, h1, hf, b1, b2, b3, _⟩
    · rw [h1]
      exact Ev.congr (fun k => by rw [if_neg h2]; rfl) (near_j0_true a1 e (S []) 0 (fun _ => ⟨rfl, rfl⟩))
    · rw [h1]
      have htrue := near_j0_true a1 0 (S l) u (fun h => absurd rfl h)
      have esz : (((S l).size : Int)) = l.length := by rw [size_S]
      by_cases c1 : (l.length : Int) > 900
      · exact Ev.congr (fun k => by rw [if_pos rfl, esz, if_pos c1]) htrue
      · by_cases c2 : u < -2000
        · exact Ev.congr (fun k => by rw [if_pos rfl, esz, if_neg c1, if_pos c2]) htrue
        · by_cases c3 : u > 2000
          · exact Ev.congr (fun k => by rw [if_pos rfl, esz, if_neg c1, if_neg c2, decide_eq_true c3]) htrue
          · refine Ev.congr (fun k => by rw [if_pos rfl, esz, if_neg c1, if_neg c2, decide_eq_false c3]) ?_
            obtain ⟨n, hn, hnl⟩ : ∃ n : Nat, mx 0 (mn a1 1000) = (n : Int) ∧ n ≤ 1000 := by
              refine ⟨(max 0 (min a1 1000)).toNat, ?_, by omega⟩
              have : mx 0 (mn a1 1000) = max 0 (min a1 1000) := by unfold mx mn; split <;> split <;> omega
              rw [this]; omega
            obtain ⟨x, y, r1, r2, r3, r4, r5⟩ := round_dec hf (by omega) n hnl
            obtain ⟨q1, q2⟩ := round_len hf n
            have hb : -3900 ≤ u - max (l.length : Int) n ∧ u - max (l.length : Int) n ≤ 3900 := by omega
            have hK : max l.length n ≤ 1000 := by omega
            have hy3 : y < 10 ^ (max l.length n + 2) := by
              have hT0 : 0 < 10 ^ max l.length n := Nat.pow_pos (by omega)
              rw [pow_two_more]; omega
            have hd := dec_ok hy3 hK hb
            rw [← r1] at hd
            have hR := roundS_eq (S l) u n
            rw [roundS_of hf (by omega) (by omega)] at hR
            have hR2 := roundS_eq (S (roundN l u n).1) (roundN l u n).2 n
            rw [roundS_of q2 (by omega) (by omega)] at hR2
            have hP := placesS_eq (S l) u (wrap64 ((n : Int) - u))
            rw [roundS_of hf (by omega) (by omega), wrap_id (x := (n : Int) - u) (by omega) (by omega), show u + max (-20000) (min ((n : Int) - u) 20000) = n by omega] at hP
            have hH := half_eq (x := y) (y := x) (u := u - n) (E := u - max (l.length : Int) n) (K := max l.length n) r4 (by omega) hK hb (by omega) (by omega)
            rw [← r1, ← r2, show (u - (n : Int) - (u - max (l.length : Int) n)).toNat = max l.length n - n by omega, decide_eq_true r5] at hH
            have hj1 : Ev (fun k => platenlaw04_BigdecNear.j1 k (n : Int) false (S l) u (S (roundN l u n).1) (roundN l u n).2) true := by
              refine Ev.step (f := fun k => ((platenlaw04_half.f k (S (roundN l u n).1) (roundN l u n).2 (S l) u (u - n)).bind fun t483 => (if t483 = true then ((platenlaw04_lives.f k).bind fun t484 => (some t484)) else (some false)))) (fun k => ?_) (Ev.bind hH ?_)
              · simp only [platenlaw04_BigdecNear.j1]
                rw [if_neg (fun h => by cases h), wrap_id (x := u - (n : Int)) (by omega) (by omega)]
              · exact Ev.congr (fun k => by rw [if_pos rfl]) livesEndH
            refine Ev.step (f := fun k => ((bigdec_Round.f k (S l) u n).bind fun bt471 => ((bigdec_Round.f k bt471.1 bt471.2.1 n).bind fun bt475 => ((bigdec_Places.f k (S l) u ((n : Int) - u)).bind fun bt479 => (if bt471.2.2 = 0 then (if bt475.2.2 = 0 then (if bt479.2.2 = 0 then (if (!(bt471.1.toList == bt479.1.toList) || (!(bt471.2.1 == bt479.2.1))) = true then (platenlaw04_BigdecNear.j1 k n true (S l) u bt471.1 bt471.2.1) else (if (n : Int) > 0 then (if (!(bt471.1.toList == bt475.1.toList) || (!(bt471.2.1 == bt475.2.1))) = true then (platenlaw04_BigdecNear.j1 k n true (S l) u bt471.1 bt471.2.1) else (platenlaw04_BigdecNear.j1 k n (decide ((bt471.1.size : Int) > (mx n 1))) (S l) u bt471.1 bt471.2.1)) else (platenlaw04_BigdecNear.j1 k n (decide ((bt471.1.size : Int) > (mx n 1))) (S l) u bt471.1 bt471.2.1))) else (platenlaw04_BigdecNear.j1 k n true (S l) u bt471.1 bt471.2.1)) else (platenlaw04_BigdecNear.j1 k n true (S l) u bt471.1 bt471.2.1)) else (platenlaw04_BigdecNear.j1 k n true (S l) u bt471.1 bt471.2.1)))))) (fun k => ?_) (Ev.bind hR (Ev.bind hR2 (Ev.bind hP ?_)))
            · simp only [platenlaw04_BigdecNear.j0, hn]
              rw [if_neg (fun h => by cases h), wrap_id (x := (n : Int) - u) (by omega) (by omega)]
            · have hsz : ((S (roundN l u n).1).size : Int) = ((roundN l u n).1.length : Int) := by rw [size_S]
              have hbig : decide (((S (roundN l u n).1).size : Int) > mx (n : Int) 1) = false := by
                have : mx (n : Int) 1 = max (n : Int) 1 := by unfold mx; split <;> omega
                rw [hsz, this]
                exact decide_eq_false (by omega)
              have hne : ∀ (A : ByteArray) (B : Int), ¬ ((!(A.toList == A.toList) || (!(B == B))) = true) := by intro A B; simp
              show Ev (fun k => if (0 : Int) = 0 then (if (0 : Int) = 0 then (if (0 : Int) = 0 then (if (!((S (roundN l u n).1).toList == (S (roundN l u n).1).toList) || (!((roundN l u n).2 == (roundN l u n).2))) = true then (platenlaw04_BigdecNear.j1 k n true (S l) u (S (roundN l u n).1) (roundN l u n).2) else (if (n : Int) > 0 then (if (!((S (roundN l u n).1).toList == (S (roundN (roundN l u n).1 (roundN l u n).2 n).1).toList) || (!((roundN l u n).2 == (roundN (roundN l u n).1 (roundN l u n).2 n).2))) = true then (platenlaw04_BigdecNear.j1 k n true (S l) u (S (roundN l u n).1) (roundN l u n).2) else (platenlaw04_BigdecNear.j1 k n (decide (((S (roundN l u n).1).size : Int) > (mx n 1))) (S l) u (S (roundN l u n).1) (roundN l u n).2)) else (platenlaw04_BigdecNear.j1 k n (decide (((S (roundN l u n).1).size : Int) > (mx n 1))) (S l) u (S (roundN l u n).1) (roundN l u n).2))) else (platenlaw04_BigdecNear.j1 k n true (S l) u (S (roundN l u n).1) (roundN l u n).2)) else (platenlaw04_BigdecNear.j1 k n true (S l) u (S (roundN l u n).1) (roundN l u n).2)) else (platenlaw04_BigdecNear.j1 k n true (S l) u (S (roundN l u n).1) (roundN l u n).2)) true
              by_cases c5 : (n : Int) > 0
              · have hsame : roundN (roundN l u n).1 (roundN l u n).2 n = roundN l u n := by
                  have : roundN (roundN l u n).1 (roundN l u n).2 n = ((roundN l u n).1, (roundN l u n).2) := by
                    generalize roundN l u n = R at *
                    unfold roundN
                    rw [if_neg (by omega), if_pos (by omega)]
                  exact this
                rw [hsame]
                exact Ev.congr (fun k => by rw [if_pos rfl, if_pos rfl, if_pos rfl, if_neg (hne _ _), if_pos c5, if_neg (hne _ _), hbig]) hj1
              · exact Ev.congr (fun k => by rw [if_pos rfl, if_pos rfl, if_pos rfl, if_neg (hne _ _), if_neg c5, hbig]) hj1
  exact main.rounds
end Go.Proofs.YtobidkjmgkmaoaaDoor.Pure
end
