/- The law BigdecPlaces: the walks through its functions and its plain law (part 1). Own texts and the kit's printed words for this seat, without what the law does not use: put together by merge.py (of this work). -/
import Derived.Test.YtobidkjmgkmaoaaDoorMBigdecPlaces0
section
namespace Go.Proofs.YtobidkjmgkmaoaaDoor.Fn
open Go.RowKit Go.Proofs.YtobidkjmgkmaoaaDoorW.PrintWords Go.Proofs.YtobidkjmgkmaoaaDoorW.PrintLast Go.Proofs.YtobidkjmgkmaoaaDoorW.PrintMore
attribute [local go_sem] max2_int min2_int max_two min_two
set_option linter.unusedVariables false
set_option linter.unusedSimpArgs false
mutual
def platenref04_In.j1 : Nat → ByteArray → Int → Option (ByteArray × Int)
 | 0, _, _ => none
 | k + 1, x115000, x115001 => platenref04_In.l1 k x115000 x115001
def platenref04_In.l1 : Nat → ByteArray → Int → Option (ByteArray × Int)
 | 0, _, _ => none
 | k + 1, x115000, x115001 => if x115000.toList = ([] : List UInt8) then (some (x115000, 0)) else (if 0 ≤ (wrap64 ((x115000.size : Int) - 1)) then (if (wrap64 ((x115000.size : Int) - 1)) < (x115000.size : Int) then (if (bt x115000 (wrap64 ((x115000.size : Int) - 1))) = 48 then (if (wrap64 ((x115000.size : Int) - 1)) ≤ (x115000.size : Int) then (platenref04_In.l1 k (x115000.extract 0 ((wrap64 ((x115000.size : Int) - 1)) : Int).toNat) x115001) else (none)) else (some (x115000, x115001))) else (none)) else (none))
def platenref04_In.l0 : Nat → ByteArray → Int → Option (ByteArray × Int)
 | 0, _, _ => none
 | k + 1, x115000, x115001 => if x115000.toList = ([] : List UInt8) then (platenref04_In.j1 k x115000 x115001) else (if 0 < (x115000.size : Int) then (if (bt x115000 0) = 48 then (if 1 ≤ (x115000.size : Int) then (platenref04_In.l0 k (x115000.extract 1 x115000.size) (wrap64 (x115001 - 1))) else (none)) else (platenref04_In.j1 k x115000 x115001)) else (none))
end
def platenref04_In.f (k : Nat) (a0_0 : ByteArray) (a0_1 : Int) : Option (ByteArray × Int) := platenref04_In.l0 k a0_0 a0_1
set_option maxHeartbeats 8000000 in
set_option maxRecDepth 100000 in
theorem platenref04_In.calls (k : Nat) (a0_0 : ByteArray) (a0_1 : Int) (r1 : ByteArray) (r2 : Int) (w : World) (h : platenref04_In.f k a0_0 a0_1 = some (r1, r2)) :
  Calls Tryd.prog 28 #[.agg #[.string a0_0, .int .i64 a0_1]] w fun e w' => e = .returned (.agg #[.string r1, .int .i64 r2]) ∧ Below w.heap.size w w' := by
 have hu23 := Tryd.underlying23
 have HB := Aside0.mk (Below.refl w.heap.size w)
 have H : (platenref04_In.l0 k a0_0 a0_1) = some (r1, r2) := h
 clear h
 have HC2 := Aside0.mk H
 clear H
 go_enter Tryd.func28, Tryd.ntmps28
 go_upto_block 0 with (first | ((with_reducible refine gate_dst (N := 1) rfl ?_); (try (refine gate_guard (by rfl) ?_; dsimp only)); refine box_event ?hg (N := 1) ?hd (cs := #[.string a0_0, .int .i64 a0_1]) (t := 23) ?hr ?_; (case hd => rfl); (case hg => rfl); (case hr => first | (go_simp; done) | (go_simp; rfl)); intro gb114 hg w3 hbox hb; have n0_ := Aside0.mk (below_step (by repeat (first | (with_reducible first | exact HB.out | apply below_alloc | apply pw_below_drewN | apply below_drew1) | exact HB.out)) hb); have n1_ := Aside0.mk (hbox); have n2_ := Aside0.mk ((by rw [hg]; exact (below_size (by repeat (first | (with_reducible first | exact HB.out | apply below_alloc | apply pw_below_drewN | apply below_drew1) | exact HB.out))) : w.heap.size ≤ gb114)); have n3_ := Aside0.mk ((by rw [hg]; exact (below_size (by repeat (first | (with_reducible first | exact HB.out | apply below_alloc | apply pw_below_drewN | apply below_drew1) | exact HB.out))) : w.heap.size ≤ gb114)); clear HB; have HB := n0_; have BK114 := n1_; have GW114 := n2_; have GE114 := n3_; clear n0_ n1_ n2_ n3_; clear hb hbox hg) | ((with_reducible refine gate_dst (N := 2) rfl ?_); (try (refine gate_guard (by rfl) ?_; dsimp only)); refine box_event ?hg (N := 2) ?hd (cs := #[.string (⟨#[]⟩ : ByteArray), .int .i64 0]) (t := 23) ?hr ?_; (case hd => rfl); (case hg => rfl); (case hr => first | (go_simp; done) | (go_simp; rfl)); intro gb115 hg w4 hbox hb; have n0_ := Aside0.mk (blk_below (g := gb114) (o := .cells #[.string a0_0, .int .i64 a0_1] 23 (0, 0)) (by (with_reducible repeat (first | refine blk_drewN ?_ _ | refine blk_drew ?_ | refine blk_alloc ?_ _)); exact BK114.out) hb); have n1_ := Aside0.mk (below_step (by repeat (first | (with_reducible first | exact HB.out | apply below_alloc | apply pw_below_drewN | apply below_drew1 | refine below_set ?_ GE114.out) | exact HB.out)) hb); have n2_ := Aside0.mk (hbox); have n3_ := Aside0.mk ((by rw [hg]; exact (below_size (by repeat (first | (with_reducible first | exact HB.out | apply below_alloc | apply pw_below_drewN | apply below_drew1 | refine below_set ?_ GE114.out) | exact HB.out))) : w.heap.size ≤ gb115)); have n4_ := Aside0.mk ((by rw [hg]; exact (below_size (by repeat (first | (with_reducible first | exact HB.out | apply below_alloc | apply pw_below_drewN | apply below_drew1 | refine below_set ?_ GE114.out) | exact HB.out))) : w.heap.size ≤ gb115)); have n5_ := Aside0.mk ((by rw [hg]; exact Nat.ne_of_lt (blk_lt (g := gb114) (o := .cells #[.string a0_0, .int .i64 a0_1] 23 (0, 0)) (by (with_reducible repeat (first | refine blk_drewN ?_ _ | refine blk_drew ?_ | refine blk_alloc ?_ _)); exact BK114.out)) : gb114 ≠ gb115)); have n6_ := Aside0.mk ((by rw [hg]; exact Nat.ne_of_gt (blk_lt (g := gb114) (o := .cells #[.string a0_0, .int .i64 a0_1] 23 (0, 0)) (by (with_reducible repeat (first | refine blk_drewN ?_ _ | refine blk_drew ?_ | refine blk_alloc ?_ _)); exact BK114.out)) : gb115 ≠ gb114)); clear BK114; clear HB; have BK114 := n0_; have HB := n1_; have BK115 := n2_; have GW115 := n3_; have GE115 := n4_; have NB114_115 := n5_; have NB115_114 := n6_; clear n0_ n1_ n2_ n3_ n4_ n5_ n6_; clear hb hbox hg))
 (try simp only [Act.put, List.setIfInBounds_toArray, List.set_cons_zero, List.set_cons_succ])
 go_cut [] (fun wc => ∃ (kq : Nat) (x115000_1 : ByteArray) (x115001_1 : Int), Aside0 (platenref04_In.j1 kq x115000_1 x115001_1 = some (r1, r2)) ∧ Aside0 (kq ≤ k) ∧ Aside0 (wc.heap[gb114]? = some (.cells #[.string x115000_1, .int .i64 x115001_1] 23 (0, 0))) ∧ Aside0 (wc.heap[gb115]? = some (.cells #[.string (⟨#[]⟩ : ByteArray), .int .i64 0] 23 (0, 0))) ∧ Aside0 (Below w.heap.size w wc))
 case first =>
  have H := HC2.out
  clear HC2
  have H' := Aside0.mk H
  clear H
  go_wp2
  go_loopg [] k (fun kq w' => ∃ (x115000_1 : ByteArray) (x115001_1 : Int), Aside0 (platenref04_In.l0 kq x115000_1 x115001_1 = some (r1, r2)) ∧ Aside0 (kq ≤ k) ∧ Aside0 (w'.heap[gb114]? = some (.cells #[.string x115000_1, .int .i64 x115001_1] 23 (0, 0))) ∧ Aside0 (w'.heap[gb115]? = some (.cells #[.string (⟨#[]⟩ : ByteArray), .int .i64 0] 23 (0, 0))) ∧ Aside0 (Below w.heap.size w w'))
  case atStart => exact ⟨(a0_0), (a0_1), H', ⟨Nat.le_refl _⟩, ⟨by (with_reducible repeat (first | refine blk_drewN ?_ _ | refine blk_drew ?_ | refine blk_alloc ?_ _)); exact BK114.out⟩, ⟨by (with_reducible repeat (first | refine blk_drewN ?_ _ | refine blk_drew ?_ | refine blk_alloc ?_ _)); exact BK115.out⟩, ⟨by repeat (first | (with_reducible first | exact HB.out | apply below_alloc | apply pw_below_drewN | apply below_drew1 | refine below_set ?_ GE114.out | refine below_set ?_ GE115.out) | exact HB.out)⟩⟩
  case round =>
   clear H'
   obtain ⟨x115000_1, x115001_1, HA, HK1, BK114, BK115, HB⟩ := hrel
   cases gk with
   | zero => exact absurd HA.out (by simp [platenref04_In.l0])
   | succ k1 =>
    have H := HA.out
    clear HA
    simp only [platenref04_In.l0] at H
    by_cases c5 : x115000_1.toList = ([] : List UInt8)
    ·rw [if_pos c5] at H
     have c5b0 : (x115000_1.toList == ([] : List UInt8)) = true := beq_iff_eq.mpr c5
     have c5b1 : (x115000_1.toList != ([] : List UInt8)) = false := bne_eq_false_iff_eq.mpr c5
     clear c5
     (first | rw [c5b0] | (simp only [i64_w, i32_w]; rw [c5b0]) | skip)
     have H' := Aside0.mk H
     clear H
     have hnb6 := NB114_115.out
     have hnc6 := NB115_114.out
     have hcz7_0 : wr.cell? ⟨gb114, 0, none⟩ = some (.string x115000_1) := (blk_cell BK114.out 0).trans rfl
     have hcz7_1 : wr.cell? ⟨gb114, 1, none⟩ = some (.int .i64 x115001_1) := (blk_cell BK114.out 1).trans rfl
     have hfz7_0 := blk_frozen BK114.out 0
     have hfz7_1 := blk_frozen BK114.out 1
     go_wp2
     go_meet
     case rel => exact ⟨_, (x115000_1), (x115001_1), H', ⟨by have := HK1.out; first | omega | exact Nat.le_refl _⟩, ⟨by (with_reducible repeat (first | refine blk_drewN ?_ _ | refine blk_drew ?_ | refine blk_alloc ?_ _)); exact BK114.out⟩, ⟨by (with_reducible repeat (first | refine blk_drewN ?_ _ | refine blk_drew ?_ | refine blk_alloc ?_ _)); exact BK115.out⟩, ⟨by repeat (first | (with_reducible first | exact HB.out | apply below_alloc | apply pw_below_drewN | apply below_drew1 | refine below_set ?_ GE114.out | refine below_set ?_ GE115.out) | exact HB.out)⟩⟩
    ·rw [if_neg c5] at H
     have c5b0 : (x115000_1.toList == ([] : List UInt8)) = false := beq_eq_false_iff_ne.mpr c5
     have c5b1 : (x115000_1.toList != ([] : List UInt8)) = true := bne_iff_ne.mpr c5
     (first | rw [c5b0] | (simp only [i64_w, i32_w]; rw [c5b0]) | skip)
     by_cases c8 : 0 < (x115000_1.size : Int)
     ·rw [if_pos c8] at H
      have c8b0 : decide (0 < (x115000_1.size : Int)) = true := decide_eq_true c8
      have c8b1 : decide (0 < x115000_1.size) = true := decide_eq_true (by omega)
      clear c8
      by_cases c10 : (bt x115000_1 0) = 48
      ·rw [if_pos c10] at H
       have c10b0 : ((bt x115000_1 0) == 48) = true := beq_iff_eq.mpr c10
       have c10b1 : ((bt x115000_1 0) != 48) = false := bne_eq_false_iff_eq.mpr c10
       clear c10
       by_cases c11 : 1 ≤ (x115000_1.size : Int)
       ·rw [if_pos c11] at H
        have c11b0 := eq_true c11
        have c11b1 : decide (1 ≤ (x115000_1.size : Int)) = true := decide_eq_true c11
        clear c11
        have H' := Aside0.mk H
        clear H
        have hnb12 := NB114_115.out
        have hnc12 := NB115_114.out
        have hcz13_0 : wr.cell? ⟨gb114, 0, none⟩ = some (.string x115000_1) := (blk_cell BK114.out 0).trans rfl
        have hcz13_1 : wr.cell? ⟨gb114, 1, none⟩ = some (.int .i64 x115001_1) := (blk_cell BK114.out 1).trans rfl
        have hfz13_0 := blk_frozen BK114.out 0
        have hfz13_1 := blk_frozen BK114.out 1
        have p9 : 0 ≤ (0 : Int) := (by omega)
        have q9 : 0 < x115000_1.size := (by have : (0 : Int) < (x115000_1.size : Int) := of_decide_eq_true (by first | (with_reducible assumption) | assumption); omega)
        have hx9 : ∀ h : 0 < x115000_1.size, ((x115000_1[0]'h).toNat : Int) = bt x115000_1 0 := bt_at x115000_1 0
        clear p9
        have qi9 : (0 < (x115000_1.size : Int)) = True := eq_true (of_decide_eq_true (by first | (with_reducible assumption) | assumption))
        replace q9 := eq_true q9
        go_wp2
        go_roundg k1
        case measure => have := HK1.out; omega
        case rel => exact ⟨(x115000_1.extract 1 x115000_1.size), (wrap64 (x115001_1 - 1)), H', ⟨by have := HK1.out; omega⟩, ⟨by (with_reducible repeat (first | refine blk_drewN ?_ _ | refine blk_drew ?_ | refine blk_alloc ?_ _)); refine blk_put (cs := #[.string (x115000_1.extract 1 x115000_1.size), .int .i64 x115001_1]) ?_ 1 _ rfl; (with_reducible repeat (first | refine blk_drewN ?_ _ | refine blk_drew ?_ | refine blk_alloc ?_ _)); refine blk_put (cs := #[.string x115000_1, .int .i64 x115001_1]) ?_ 0 _ rfl; (with_reducible repeat (first | refine blk_drewN ?_ _ | refine blk_drew ?_ | refine blk_alloc ?_ _)); exact BK114.out⟩, ⟨by (with_reducible repeat (first | refine blk_drewN ?_ _ | refine blk_drew ?_ | refine blk_alloc ?_ _)); refine blk_far ?_ NB115_114.out _; (with_reducible repeat (first | refine blk_drewN ?_ _ | refine blk_drew ?_ | refine blk_alloc ?_ _)); refine blk_far ?_ NB115_114.out _; (with_reducible repeat (first | refine blk_drewN ?_ _ | refine blk_drew ?_ | refine blk_alloc ?_ _)); exact BK115.out⟩, ⟨by repeat (first | (with_reducible first | exact HB.out | apply below_alloc | apply pw_below_drewN | apply below_drew1 | refine below_set ?_ GE114.out | refine below_set ?_ GE115.out) | exact HB.out)⟩⟩
       ·rw [if_neg c11] at H
        exact absurd H (by simp)
      ·rw [if_neg c10] at H
       have c10b0 : ((bt x115000_1 0) == 48) = false := beq_eq_false_iff_ne.mpr c10
       have c10b1 : ((bt x115000_1 0) != 48) = true := bne_iff_ne.mpr c10
       have H' := Aside0.mk H
       clear H
       have hnb14 := NB114_115.out
       have hnc14 := NB115_114.out
       have hcz15_0 : wr.cell? ⟨gb114, 0, none⟩ = some (.string x115000_1) := (blk_cell BK114.out 0).trans rfl
       have hcz15_1 : wr.cell? ⟨gb114, 1, none⟩ = some (.int .i64 x115001_1) := (blk_cell BK114.out 1).trans rfl
       have hfz15_0 := blk_frozen BK114.out 0
       have hfz15_1 := blk_frozen BK114.out 1
       have p9 : 0 ≤ (0 : Int) := (by omega)
       have q9 : 0 < x115000_1.size := (by have : (0 : Int) < (x115000_1.size : Int) := of_decide_eq_true (by first | (with_reducible assumption) | assumption); omega)
       have hx9 : ∀ h : 0 < x115000_1.size, ((x115000_1[0]'h).toNat : Int) = bt x115000_1 0 := bt_at x115000_1 0
       clear p9
       have qi9 : (0 < (x115000_1.size : Int)) = True := eq_true (of_decide_eq_true (by first | (with_reducible assumption) | assumption))
       replace q9 := eq_true q9
       go_wp2
       go_meet
       case rel => exact ⟨_, (x115000_1), (x115001_1), H', ⟨by have := HK1.out; first | omega | exact Nat.le_refl _⟩, ⟨by (with_reducible repeat (first | refine blk_drewN ?_ _ | refine blk_drew ?_ | refine blk_alloc ?_ _)); exact BK114.out⟩, ⟨by (with_reducible repeat (first | refine blk_drewN ?_ _ | refine blk_drew ?_ | refine blk_alloc ?_ _)); exact BK115.out⟩, ⟨by repeat (first | (with_reducible first | exact HB.out | apply below_alloc | apply pw_below_drewN | apply below_drew1 | refine below_set ?_ GE114.out | refine below_set ?_ GE115.out) | exact HB.out)⟩⟩
     ·rw [if_neg c8] at H
      exact absurd H (by simp)
 case rest =>
  clear HC2
  try clear c5
  try clear c5b0
  try clear c5b1
  try clear c8
  try clear c8b0
  try clear c8b1
  try clear p9
  try clear q9
  try clear hx9
  try clear qi9
  try clear c10
  try clear c10b0
  try clear c10b1
  try clear c11
  try clear c11b0
  try clear c11b1
  try clear hcz13_0
  try clear hcz13_1
  try clear hcz15_0
  try clear hcz15_1
  try clear hcz7_0
  try clear hcz7_1
  try clear hfz13_0
  try clear hfz13_1
  try clear hfz15_0
  try clear hfz15_1
  try clear hfz7_0
  try clear hfz7_1
  try clear p9
  try clear q9
  obtain ⟨kq, x115000_1, x115001_1, HA, HJ1, BK114, BK115, HB⟩ := hcut
  cases kq with
  | zero => exact absurd HA.out (by simp [platenref04_In.j1])
  | succ kj1 =>
   have H := HA.out
   clear HA
   simp only [platenref04_In.j1] at H
   have H' := Aside0.mk H
   clear H
   go_wp2
   go_loopg [] kj1 (fun kq w' => ∃ (x115000_2 : ByteArray), Aside0 (platenref04_In.l1 kq x115000_2 x115001_1 = some (r1, r2)) ∧ Aside0 (kq ≤ kj1) ∧ Aside0 (w'.heap[gb114]? = some (.cells #[.string x115000_2, .int .i64 x115001_1] 23 (0, 0))) ∧ Aside0 (w'.heap[gb115]? = some (.cells #[.string (⟨#[]⟩ : ByteArray), .int .i64 0] 23 (0, 0))) ∧ Aside0 (Below w.heap.size w w'))
   case atStart => exact ⟨(x115000_1), H', ⟨Nat.le_refl _⟩, ⟨by (with_reducible repeat (first | refine blk_drewN ?_ _ | refine blk_drew ?_ | refine blk_alloc ?_ _)); exact BK114.out⟩, ⟨by (with_reducible repeat (first | refine blk_drewN ?_ _ | refine blk_drew ?_ | refine blk_alloc ?_ _)); exact BK115.out⟩, ⟨by repeat (first | (with_reducible first | exact HB.out | apply below_alloc | apply pw_below_drewN | apply below_drew1 | refine below_set ?_ GE114.out | refine below_set ?_ GE115.out) | exact HB.out)⟩⟩
   case round =>
    clear H'
    try clear c5
    try clear c5b0
    try clear c5b1
    try clear c8
    try clear c8b0
    try clear c8b1
    try clear p9
    try clear q9
    try clear hx9
    try clear qi9
    try clear c10
    try clear c10b0
    try clear c10b1
    try clear c11
    try clear c11b0
    try clear c11b1
    try clear hcz13_0
    try clear hcz13_1
    try clear hcz15_0
    try clear hcz15_1
    try clear hcz7_0
    try clear hcz7_1
    try clear hfz13_0
    try clear hfz13_1
    try clear hfz15_0
    try clear hfz15_1
    try clear hfz7_0
    try clear hfz7_1
    try clear p9
    try clear q9
    obtain ⟨x115000_2, HA, HK2, BK114, BK115, HB⟩ := hrel
    cases gk with
    | zero => exact absurd HA.out (by simp [platenref04_In.l1])
    | succ k2 =>
     have H := HA.out
     clear HA
     simp only [platenref04_In.l1] at H
     by_cases c16 : x115000_2.toList = ([] : List UInt8)
     ·rw [if_pos c16] at H
      have c16b0 : (x115000_2.toList == ([] : List UInt8)) = true := beq_iff_eq.mpr c16
      have c16b1 : (x115000_2.toList != ([] : List UInt8)) = false := bne_eq_false_iff_eq.mpr c16
      clear c16
      simp only [Option.some.injEq, Prod.mk.injEq] at H
      obtain ⟨rfl, rfl⟩ := H
      have hnb17 := NB114_115.out
      have hnc17 := NB115_114.out
      have hcz18_0 : wr.cell? ⟨gb114, 0, none⟩ = some (.string x115000_2) := (blk_cell BK114.out 0).trans rfl
      have hcz18_1 : wr.cell? ⟨gb114, 1, none⟩ = some (.int .i64 x115001_1) := (blk_cell BK114.out 1).trans rfl
      have hfz18_0 := blk_frozen BK114.out 0
      have hfz18_1 := blk_frozen BK114.out 1
      have hcz19_0 : wr.cell? ⟨gb115, 0, none⟩ = some (.string (⟨#[]⟩ : ByteArray)) := (blk_cell BK115.out 0).trans rfl
      have hcz19_1 : wr.cell? ⟨gb115, 1, none⟩ = some (.int .i64 0) := (blk_cell BK115.out 1).trans rfl
      have hfz19_0 := blk_frozen BK115.out 0
      have hfz19_1 := blk_frozen BK115.out 1
      go_wp2
      refine bodyPost_ret (results_cell_row rfl _ _ gb115 23 #[.string x115000_2, .int .i64 0] (0, 0) _ rfl (by (with_reducible repeat (first | refine blk_drewN ?_ _ | refine blk_drew ?_ | refine blk_alloc ?_ _)); refine blk_put (cs := #[.string x115000_2, .int .i64 0]) ?_ 1 _ rfl; (with_reducible repeat (first | refine blk_drewN ?_ _ | refine blk_drew ?_ | refine blk_alloc ?_ _)); refine blk_put (cs := #[.string (⟨#[]⟩ : ByteArray), .int .i64 0]) ?_ 0 _ rfl; (with_reducible repeat (first | refine blk_drewN ?_ _ | refine blk_drew ?_ | refine blk_alloc ?_ _)); refine blk_far ?_ NB115_114.out _; (with_reducible repeat (first | refine blk_drewN ?_ _ | refine blk_drew ?_ | refine blk_alloc ?_ _)); exact BK115.out) Tryd.underlying23 rfl (by kernel_rfl)) rfl ?_
      exact ⟨by first | rfl | (simp [errW_none, errW_some] <;> rfl) | (simp [*, errW_none, errW_some] <;> rfl), by repeat (first | (with_reducible first | exact HB.out | apply below_alloc | apply pw_below_drewN | apply below_drew1 | refine below_set ?_ GE114.out | refine below_set ?_ GE115.out) | exact HB.out)⟩
     ·rw [if_neg c16] at H
      have c16b0 : (x115000_2.toList == ([] : List UInt8)) = false := beq_eq_false_iff_ne.mpr c16
      have c16b1 : (x115000_2.toList != ([] : List UInt8)) = true := bne_iff_ne.mpr c16
      obtain ⟨ji20, hji20⟩ : ∃ j_ : Int, (wrap64 ((x115000_2.size : Int) - 1)) = j_ := ⟨_, rfl⟩
      replace H : (if 0 ≤ (ji20) then (if (ji20) < (x115000_2.size : Int) then (if (bt x115000_2 (ji20)) = 48 then (if (ji20) ≤ (x115000_2.size : Int) then (platenref04_In.l1 k2 (x115000_2.extract 0 ((ji20) : Int).toNat) x115001_1) else (none)) else (some (x115000_2, x115001_1))) else (none)) else (none)) = some (r1, r2) := by first | (rw [hji20] at H; exact H) | (simp only [hji20] at H ⊢; exact H)
      have hji20w : (IntKind.i64.wrap ((x115000_2.size : Int) - 1)) = ji20 := (i64_w _).trans hji20
      by_cases c21 : 0 ≤ (ji20)
      ·rw [if_pos c21] at H
       have c21b0 : decide (0 ≤ (ji20)) = true := decide_eq_true c21
       clear c21
       by_cases c22 : (ji20) < (x115000_2.size : Int)
       ·rw [if_pos c22] at H
        have c22b0 : decide ((ji20) < (x115000_2.size : Int)) = true := decide_eq_true c22
        clear c22
        by_cases c24 : (bt x115000_2 (ji20)) = 48
        ·rw [if_pos c24] at H
         have c24b0 : ((bt x115000_2 (ji20)) == 48) = true := beq_iff_eq.mpr c24
         have c24b1 : ((bt x115000_2 (ji20)) != 48) = false := bne_eq_false_iff_eq.mpr c24
         clear c24
         have c25b0 := eq_true (of_decide_eq_true (by first | (with_reducible assumption) | assumption) : 0 ≤ (ji20))
         by_cases c26 : (ji20) ≤ (x115000_2.size : Int)
         ·rw [if_pos c26] at H
          have c26b0 := eq_true c26
          have c26b1 : decide ((ji20) ≤ (x115000_2.size : Int)) = true := decide_eq_true c26
          clear c26
          have H' := Aside0.mk H
          clear H
          have hnb27 := NB114_115.out
          have hnc27 := NB115_114.out
          have hcz28_0 : wr.cell? ⟨gb114, 0, none⟩ = some (.string x115000_2) := (blk_cell BK114.out 0).trans rfl
          have hcz28_1 : wr.cell? ⟨gb114, 1, none⟩ = some (.int .i64 x115001_1) := (blk_cell BK114.out 1).trans rfl
          have hfz28_0 := blk_frozen BK114.out 0
          have hfz28_1 := blk_frozen BK114.out 1
          have p23 : 0 ≤ ((ji20) : Int) := of_decide_eq_true (by first | (with_reducible assumption) | assumption)
          have q23 : (ji20) < (x115000_2.size : Int) := of_decide_eq_true (by first | (with_reducible assumption) | assumption)
          have hx23 := bt_at x115000_2 (ji20)
          replace p23 := eq_true p23
          replace q23 := eq_true q23
          go_wp2
          go_roundg k2
          case measure => have := HJ1.out; have := HK2.out; omega
          case rel => exact ⟨(x115000_2.extract 0 ((ji20) : Int).toNat), H', ⟨by have := HJ1.out; have := HK2.out; omega⟩, ⟨by (with_reducible repeat (first | refine blk_drewN ?_ _ | refine blk_drew ?_ | refine blk_alloc ?_ _)); refine blk_put (cs := #[.string x115000_2, .int .i64 x115001_1]) ?_ 0 _ rfl; (with_reducible repeat (first | refine blk_drewN ?_ _ | refine blk_drew ?_ | refine blk_alloc ?_ _)); exact BK114.out⟩, ⟨by (with_reducible repeat (first | refine blk_drewN ?_ _ | refine blk_drew ?_ | refine blk_alloc ?_ _)); refine blk_far ?_ NB115_114.out _; (with_reducible repeat (first | refine blk_drewN ?_ _ | refine blk_drew ?_ | refine blk_alloc ?_ _)); exact BK115.out⟩, ⟨by repeat (first | (with_reducible first | exact HB.out | apply below_alloc | apply pw_below_drewN | apply below_drew1 | refine below_set ?_ GE114.out | refine below_set ?_ GE115.out) | exact HB.out)⟩⟩
         ·rw [if_neg c26] at H
          exact absurd H (by simp)
        ·rw [if_neg c24] at H
         have c24b0 : ((bt x115000_2 (ji20)) == 48) = false := beq_eq_false_iff_ne.mpr c24
         have c24b1 : ((bt x115000_2 (ji20)) != 48) = true := bne_iff_ne.mpr c24
         simp only [Option.some.injEq, Prod.mk.injEq] at H
         obtain ⟨rfl, rfl⟩ := H
         have hnb29 := NB114_115.out
         have hnc29 := NB115_114.out
         have hcz30_0 : wr.cell? ⟨gb114, 0, none⟩ = some (.string x115000_2) := (blk_cell BK114.out 0).trans rfl
         have hcz30_1 : wr.cell? ⟨gb114, 1, none⟩ = some (.int .i64 x115001_1) := (blk_cell BK114.out 1).trans rfl
         have hfz30_0 := blk_frozen BK114.out 0
         have hfz30_1 := blk_frozen BK114.out 1
         have p23 : 0 ≤ ((ji20) : Int) := of_decide_eq_true (by first | (with_reducible assumption) | assumption)
         have q23 : (ji20) < (x115000_2.size : Int) := of_decide_eq_true (by first | (with_reducible assumption) | assumption)
         have hx23 := bt_at x115000_2 (ji20)
         replace p23 := eq_true p23
         replace q23 := eq_true q23
         have hcz31_0 : wr.cell? ⟨gb115, 0, none⟩ = some (.string (⟨#[]⟩ : ByteArray)) := (blk_cell BK115.out 0).trans rfl
         have hcz31_1 : wr.cell? ⟨gb115, 1, none⟩ = some (.int .i64 0) := (blk_cell BK115.out 1).trans rfl
         have hfz31_0 := blk_frozen BK115.out 0
         have hfz31_1 := blk_frozen BK115.out 1
         go_wp2
         refine bodyPost_ret (results_cell_row rfl _ _ gb115 23 #[.string x115000_2, .int .i64 x115001_1] (0, 0) _ rfl (by (with_reducible repeat (first | refine blk_drewN ?_ _ | refine blk_drew ?_ | refine blk_alloc ?_ _)); refine blk_put (cs := #[.string x115000_2, .int .i64 0]) ?_ 1 _ rfl; (with_reducible repeat (first | refine blk_drewN ?_ _ | refine blk_drew ?_ | refine blk_alloc ?_ _)); refine blk_put (cs := #[.string (⟨#[]⟩ : ByteArray), .int .i64 0]) ?_ 0 _ rfl; (with_reducible repeat (first | refine blk_drewN ?_ _ | refine blk_drew ?_ | refine blk_alloc ?_ _)); exact BK115.out) Tryd.underlying23 rfl (by kernel_rfl)) rfl ?_
         exact ⟨by first | rfl | (simp [errW_none, errW_some] <;> rfl) | (simp only [← hji20]; first | rfl | (simp [errW_none, errW_some] <;> rfl)) | (simp [*, errW_none, errW_some] <;> rfl), by repeat (first | (with_reducible first | exact HB.out | apply below_alloc | apply pw_below_drewN | apply below_drew1 | refine below_set ?_ GE114.out | refine below_set ?_ GE115.out) | exact HB.out)⟩
       ·rw [if_neg c22] at H
        exact absurd H (by simp)
      ·rw [if_neg c21] at H
       exact absurd H (by simp)
end Go.Proofs.YtobidkjmgkmaoaaDoor.Fn
end
section
namespace Go.Proofs.YtobidkjmgkmaoaaDoor.Fn
open Go.RowKit Go.Proofs.YtobidkjmgkmaoaaDoorW.PrintWords Go.Proofs.YtobidkjmgkmaoaaDoorW.PrintLast Go.Proofs.YtobidkjmgkmaoaaDoorW.PrintMore
attribute [local go_sem] max2_int min2_int max_two min_two
set_option linter.unusedVariables false
set_option linter.unusedSimpArgs false
def platenref04_Norm.l0 : Nat → Int → ByteArray → Int → Option (ByteArray × Int × Int)
 | 0, _, _, _ => none
 | k + 1, x4, x117000, x117001 => if x4 < (x117000.size : Int) then (if 0 ≤ x4 then (if (bt x117000 x4) < 48 then (some ((⟨#[]⟩ : ByteArray), 0, 4)) else (if (bt x117000 x4) > 57 then (some ((⟨#[]⟩ : ByteArray), 0, 4)) else (platenref04_Norm.l0 k (wrap64 (x4 + 1)) x117000 x117001))) else (none)) else (if x117001 < (-5000) then (some ((⟨#[]⟩ : ByteArray), 0, 2)) else (if x117001 > 5000 then (some ((⟨#[]⟩ : ByteArray), 0, 2)) else ((platenref04_In.f k x117000 x117001).bind fun bt118 => (some (bt118.1, bt118.2, 0)))))
def platenref04_Norm.f (k : Nat) (a0_0 : ByteArray) (a0_1 : Int) : Option (ByteArray × Int × Int) := if (a0_0.size : Int) > 2000 then (some ((⟨#[]⟩ : ByteArray), 0, 2)) else (platenref04_Norm.l0 k 0 a0_0 a0_1)
set_option maxHeartbeats 8000000 in
set_option maxRecDepth 100000 in
theorem platenref04_Norm.calls (k : Nat) (a0_0 : ByteArray) (a0_1 : Int) (r1 : ByteArray) (r2 : Int) (r3 : Int) (w : World) (h : platenref04_Norm.f k a0_0 a0_1 = some (r1, r2, r3)) :
  Calls Tryd.prog 14 #[.agg #[.string a0_0, .int .i64 a0_1]] w fun e w' => e = .returned (.tuple #[.agg #[.string r1, .int .i64 r2], .int .i64 r3]) ∧ Below w.heap.size w w' := by
 have hu23 := Tryd.underlying23
 have HB := Aside0.mk (Below.refl w.heap.size w)
 have H : (if (a0_0.size : Int) > 2000 then (some ((⟨#[]⟩ : ByteArray), 0, 2)) else (platenref04_Norm.l0 k 0 a0_0 a0_1)) = some (r1, r2, r3) := h
 clear h
 by_cases c2 : (a0_0.size : Int) > 2000
 ·rw [if_pos c2] at H
  have c2b0 : decide (2000 < (a0_0.size : Int)) = true := decide_eq_true c2
  have c2b1 : decide (2000 < a0_0.size) = true := decide_eq_true (by omega)
  clear c2
  simp only [Option.some.injEq, Prod.mk.injEq] at H
  obtain ⟨rfl, rfl, rfl⟩ := H
  go_enter Tryd.func14, Tryd.ntmps14
  go_wp2_with (first | ((with_reducible refine gate_dst (N := 1) rfl ?_); refine box_event ?hg (N := 1) ?hd (cs := #[.string a0_0, .int .i64 a0_1]) (t := 23) ?hr ?_; (case hd => rfl); (case hg => rfl); (case hr => first | (go_simp; done) | (go_simp; rfl)); intro gb116 hg w3 hbox hb; have n0_ := Aside0.mk (below_step (by repeat (first | (with_reducible first | exact HB.out | apply below_alloc | apply pw_below_drewN | apply below_drew1) | exact HB.out)) hb); have n1_ := Aside0.mk (hbox); have n2_ := Aside0.mk ((by rw [hg]; exact (below_size (by repeat (first | (with_reducible first | exact HB.out | apply below_alloc | apply pw_below_drewN | apply below_drew1) | exact HB.out))) : w.heap.size ≤ gb116)); have n3_ := Aside0.mk ((by rw [hg]; exact (below_size (by repeat (first | (with_reducible first | exact HB.out | apply below_alloc | apply pw_below_drewN | apply below_drew1) | exact HB.out))) : w.heap.size ≤ gb116)); clear HB; have HB := n0_; have BK116 := n1_; have GW116 := n2_; have GE116 := n3_; clear n0_ n1_ n2_ n3_; clear hb hbox hg) | ((with_reducible refine gate_dst (N := 2) rfl ?_); refine box_event ?hg (N := 2) ?hd (cs := #[.string (⟨#[]⟩ : ByteArray), .int .i64 0]) (t := 23) ?hr ?_; (case hd => rfl); (case hg => rfl); (case hr => first | (go_simp; done) | (go_simp; rfl)); intro gb117 hg w4 hbox hb; have n0_ := Aside0.mk (blk_below (g := gb116) (o := .cells #[.string a0_0, .int .i64 a0_1] 23 (0, 0)) (by (with_reducible repeat (first | refine blk_drewN ?_ _ | refine blk_drew ?_ | refine blk_alloc ?_ _)); exact BK116.out) hb); have n1_ := Aside0.mk (below_step (by repeat (first | (with_reducible first | exact HB.out | apply below_alloc | apply pw_below_drewN | apply below_drew1 | refine below_set ?_ GE116.out) | exact HB.out)) hb); have n2_ := Aside0.mk (hbox); have n3_ := Aside0.mk ((by rw [hg]; exact (below_size (by repeat (first | (with_reducible first | exact HB.out | apply below_alloc | apply pw_below_drewN | apply below_drew1 | refine below_set ?_ GE116.out) | exact HB.out))) : w.heap.size ≤ gb117)); have n4_ := Aside0.mk ((by rw [hg]; exact (below_size (by repeat (first | (with_reducible first | exact HB.out | apply below_alloc | apply pw_below_drewN | apply below_drew1 | refine below_set ?_ GE116.out) | exact HB.out))) : w.heap.size ≤ gb117)); have n5_ := Aside0.mk ((by rw [hg]; exact Nat.ne_of_lt (blk_lt (g := gb116) (o := .cells #[.string a0_0, .int .i64 a0_1] 23 (0, 0)) (by (with_reducible repeat (first | refine blk_drewN ?_ _ | refine blk_drew ?_ | refine blk_alloc ?_ _)); exact BK116.out)) : gb116 ≠ gb117)); have n6_ := Aside0.mk ((by rw [hg]; exact Nat.ne_of_gt (blk_lt (g := gb116) (o := .cells #[.string a0_0, .int .i64 a0_1] 23 (0, 0)) (by (with_reducible repeat (first | refine blk_drewN ?_ _ | refine blk_drew ?_ | refine blk_alloc ?_ _)); exact BK116.out)) : gb117 ≠ gb116)); clear BK116; clear HB; have BK116 := n0_; have HB := n1_; have BK117 := n2_; have GW117 := n3_; have GE117 := n4_; have NB116_117 := n5_; have NB117_116 := n6_; clear n0_ n1_ n2_ n3_ n4_ n5_ n6_; clear hb hbox hg; have hnb5 := NB116_117.out; have hnc5 := NB117_116.out; have hcz6_0 : w4.cell? ⟨gb116, 0, none⟩ = some (.string a0_0) := (blk_cell BK116.out 0).trans rfl; have hcz6_1 : w4.cell? ⟨gb116, 1, none⟩ = some (.int .i64 a0_1) := (blk_cell BK116.out 1).trans rfl; have hfz6_0 := blk_frozen BK116.out 0; have hfz6_1 := blk_frozen BK116.out 1; have hcz7_0 : w4.cell? ⟨gb117, 0, none⟩ = some (.string (⟨#[]⟩ : ByteArray)) := (blk_cell BK117.out 0).trans rfl; have hcz7_1 : w4.cell? ⟨gb117, 1, none⟩ = some (.int .i64 0) := (blk_cell BK117.out 1).trans rfl; have hfz7_0 := blk_frozen BK117.out 0; have hfz7_1 := blk_frozen BK117.out 1))
  refine bodyPost_ret (results_ct rfl _ _ gb117 23 #[.string (⟨#[]⟩ : ByteArray), .int .i64 0] (0, 0) _ rfl (by (with_reducible repeat (first | refine blk_drewN ?_ _ | refine blk_drew ?_ | refine blk_alloc ?_ _)); refine blk_put (cs := #[.string (⟨#[]⟩ : ByteArray), .int .i64 0]) ?_ 1 _ rfl; (with_reducible repeat (first | refine blk_drewN ?_ _ | refine blk_drew ?_ | refine blk_alloc ?_ _)); refine blk_put (cs := #[.string (⟨#[]⟩ : ByteArray), .int .i64 0]) ?_ 0 _ rfl; (with_reducible repeat (first | refine blk_drewN ?_ _ | refine blk_drew ?_ | refine blk_alloc ?_ _)); exact BK117.out) Tryd.underlying23 rfl (by kernel_rfl)) rfl ?_
  exact ⟨by first | rfl | (simp [errW_none, errW_some] <;> rfl) | (simp [*, errW_none, errW_some] <;> rfl), by repeat (first | (with_reducible first | exact HB.out | apply below_alloc | apply pw_below_drewN | apply below_drew1 | refine below_set ?_ GE116.out | refine below_set ?_ GE117.out) | exact HB.out)⟩
 ·rw [if_neg c2] at H
  have c2b0 : decide (2000 < (a0_0.size : Int)) = false := decide_eq_false c2
  have c2b1 : decide (2000 < a0_0.size) = false := decide_eq_false (by omega)
  clear c2
  have H' := Aside0.mk H
  clear H
  go_enter Tryd.func14, Tryd.ntmps14
  go_wp2_with (first | ((with_reducible refine gate_dst (N := 1) rfl ?_); refine box_event ?hg (N := 1) ?hd (cs := #[.string a0_0, .int .i64 a0_1]) (t := 23) ?hr ?_; (case hd => rfl); (case hg => rfl); (case hr => first | (go_simp; done) | (go_simp; rfl)); intro gb116 hg w8 hbox hb; have n0_ := Aside0.mk (below_step (by repeat (first | (with_reducible first | exact HB.out | apply below_alloc | apply pw_below_drewN | apply below_drew1) | exact HB.out)) hb); have n1_ := Aside0.mk (hbox); have n2_ := Aside0.mk ((by rw [hg]; exact (below_size (by repeat (first | (with_reducible first | exact HB.out | apply below_alloc | apply pw_below_drewN | apply below_drew1) | exact HB.out))) : w.heap.size ≤ gb116)); have n3_ := Aside0.mk ((by rw [hg]; exact (below_size (by repeat (first | (with_reducible first | exact HB.out | apply below_alloc | apply pw_below_drewN | apply below_drew1) | exact HB.out))) : w.heap.size ≤ gb116)); clear HB; have HB := n0_; have BK116 := n1_; have GW116 := n2_; have GE116 := n3_; clear n0_ n1_ n2_ n3_; clear hb hbox hg) | ((with_reducible refine gate_dst (N := 2) rfl ?_); refine box_event ?hg (N := 2) ?hd (cs := #[.string (⟨#[]⟩ : ByteArray), .int .i64 0]) (t := 23) ?hr ?_; (case hd => rfl); (case hg => rfl); (case hr => first | (go_simp; done) | (go_simp; rfl)); intro gb117 hg w9 hbox hb; have n0_ := Aside0.mk (blk_below (g := gb116) (o := .cells #[.string a0_0, .int .i64 a0_1] 23 (0, 0)) (by (with_reducible repeat (first | refine blk_drewN ?_ _ | refine blk_drew ?_ | refine blk_alloc ?_ _)); exact BK116.out) hb); have n1_ := Aside0.mk (below_step (by repeat (first | (with_reducible first | exact HB.out | apply below_alloc | apply pw_below_drewN | apply below_drew1 | refine below_set ?_ GE116.out) | exact HB.out)) hb); have n2_ := Aside0.mk (hbox); have n3_ := Aside0.mk ((by rw [hg]; exact (below_size (by repeat (first | (with_reducible first | exact HB.out | apply below_alloc | apply pw_below_drewN | apply below_drew1 | refine below_set ?_ GE116.out) | exact HB.out))) : w.heap.size ≤ gb117)); have n4_ := Aside0.mk ((by rw [hg]; exact (below_size (by repeat (first | (with_reducible first | exact HB.out | apply below_alloc | apply pw_below_drewN | apply below_drew1 | refine below_set ?_ GE116.out) | exact HB.out))) : w.heap.size ≤ gb117)); have n5_ := Aside0.mk ((by rw [hg]; exact Nat.ne_of_lt (blk_lt (g := gb116) (o := .cells #[.string a0_0, .int .i64 a0_1] 23 (0, 0)) (by (with_reducible repeat (first | refine blk_drewN ?_ _ | refine blk_drew ?_ | refine blk_alloc ?_ _)); exact BK116.out)) : gb116 ≠ gb117)); have n6_ := Aside0.mk ((by rw [hg]; exact Nat.ne_of_gt (blk_lt (g := gb116) (o := .cells #[.string a0_0, .int .i64 a0_1] 23 (0, 0)) (by (with_reducible repeat (first | refine blk_drewN ?_ _ | refine blk_drew ?_ | refine blk_alloc ?_ _)); exact BK116.out)) : gb117 ≠ gb116)); clear BK116; clear HB; have BK116 := n0_; have HB := n1_; have BK117 := n2_; have GW117 := n3_; have GE117 := n4_; have NB116_117 := n5_; have NB117_116 := n6_; clear n0_ n1_ n2_ n3_ n4_ n5_ n6_; clear hb hbox hg; have hnb10 := NB116_117.out; have hnc10 := NB117_116.out; have hcz11_0 : w9.cell? ⟨gb116, 0, none⟩ = some (.string a0_0) := (blk_cell BK116.out 0).trans rfl; have hcz11_1 : w9.cell? ⟨gb116, 1, none⟩ = some (.int .i64 a0_1) := (blk_cell BK116.out 1).trans rfl; have hfz11_0 := blk_frozen BK116.out 0; have hfz11_1 := blk_frozen BK116.out 1))
  go_loopg [4] k (fun kq v4 w' => ∃ (x4_1 : Int) (x118000_1 : ByteArray) (x118001_1 : Int), v4 = .int .i64 x4_1 ∧ Aside0 (platenref04_Norm.l0 kq x4_1 a0_0 a0_1 = some (r1, r2, r3)) ∧ Aside0 (kq ≤ k) ∧ Aside0 (w'.heap[gb116]? = some (.cells #[.string a0_0, .int .i64 a0_1] 23 (0, 0))) ∧ Aside0 (w'.heap[gb117]? = some (.cells #[.string x118000_1, .int .i64 x118001_1] 23 (0, 0))) ∧ Aside0 (Below w.heap.size w w'))
  case atStart => exact ⟨(0), ((⟨#[]⟩ : ByteArray)), (0), (by first | rfl | (simp; done) | (simp [*]; done)), H', ⟨Nat.le_refl _⟩, ⟨by (with_reducible repeat (first | refine blk_drewN ?_ _ | refine blk_drew ?_ | refine blk_alloc ?_ _)); exact BK116.out⟩, ⟨by (with_reducible repeat (first | refine blk_drewN ?_ _ | refine blk_drew ?_ | refine blk_alloc ?_ _)); exact BK117.out⟩, ⟨by repeat (first | (with_reducible first | exact HB.out | apply below_alloc | apply pw_below_drewN | apply below_drew1 | refine below_set ?_ GE116.out | refine below_set ?_ GE117.out) | exact HB.out)⟩⟩
  case round =>
   clear H'
   try clear c2
   try clear c2b0
   try clear c2b1
   try clear hcz11_0
   try clear hcz11_1
   try clear hcz6_0
   try clear hcz6_1
   try clear hcz7_0
   try clear hcz7_1
   try clear hfz11_0
   try clear hfz11_1
   try clear hfz6_0
   try clear hfz6_1
   try clear hfz7_0
   try clear hfz7_1
   obtain ⟨x4_1, x118000_1, x118001_1, rfl, HA, HK1, BK116, BK117, HB⟩ := hrel
   cases gk with
   | zero => exact absurd HA.out (by simp [platenref04_Norm.l0])
   | succ k1 =>
    have H := HA.out
    clear HA
    simp only [platenref04_Norm.l0] at H
    by_cases c12 : x4_1 < (a0_0.size : Int)
    ·rw [if_pos c12] at H
     have c12b0 : decide (x4_1 < (a0_0.size : Int)) = true := decide_eq_true c12
     clear c12
     by_cases c13 : 0 ≤ x4_1
     ·rw [if_pos c13] at H
      have c13b0 : decide (0 ≤ x4_1) = true := decide_eq_true c13
      clear c13
      by_cases c15 : (bt a0_0 x4_1) < 48
      ·rw [if_pos c15] at H
       have c15b0 : decide ((bt a0_0 x4_1) < 48) = true := decide_eq_true c15
       clear c15
       simp only [Option.some.injEq, Prod.mk.injEq] at H
       obtain ⟨rfl, rfl, rfl⟩ := H
       have hnb16 := NB116_117.out
       have hnc16 := NB117_116.out
       have hcz17_0 : wr.cell? ⟨gb116, 0, none⟩ = some (.string a0_0) := (blk_cell BK116.out 0).trans rfl
       have hcz17_1 : wr.cell? ⟨gb116, 1, none⟩ = some (.int .i64 a0_1) := (blk_cell BK116.out 1).trans rfl
       have hfz17_0 := blk_frozen BK116.out 0
       have hfz17_1 := blk_frozen BK116.out 1
       have p14 : 0 ≤ (x4_1 : Int) := of_decide_eq_true (by first | (with_reducible assumption) | assumption)
       have q14 : x4_1 < (a0_0.size : Int) := of_decide_eq_true (by first | (with_reducible assumption) | assumption)
       have hx14 := bt_at a0_0 x4_1
       replace p14 := eq_true p14
       replace q14 := eq_true q14
       have hcz18_0 : wr.cell? ⟨gb117, 0, none⟩ = some (.string x118000_1) := (blk_cell BK117.out 0).trans rfl
       have hcz18_1 : wr.cell? ⟨gb117, 1, none⟩ = some (.int .i64 x118001_1) := (blk_cell BK117.out 1).trans rfl
       have hfz18_0 := blk_frozen BK117.out 0
       have hfz18_1 := blk_frozen BK117.out 1
       go_wp2
       refine bodyPost_ret (results_ct rfl _ _ gb117 23 #[.string (⟨#[]⟩ : ByteArray), .int .i64 0] (0, 0) _ rfl (by (with_reducible repeat (first | refine blk_drewN ?_ _ | refine blk_drew ?_ | refine blk_alloc ?_ _)); refine blk_put (cs := #[.string (⟨#[]⟩ : ByteArray), .int .i64 x118001_1]) ?_ 1 _ rfl; (with_reducible repeat (first | refine blk_drewN ?_ _ | refine blk_drew ?_ | refine blk_alloc ?_ _)); refine blk_put (cs := #[.string x118000_1, .int .i64 x118001_1]) ?_ 0 _ rfl; (with_reducible repeat (first | refine blk_drewN ?_ _ | refine blk_drew ?_ | refine blk_alloc ?_ _)); exact BK117.out) Tryd.underlying23 rfl (by kernel_rfl)) rfl ?_
       exact ⟨by first | rfl | (simp [errW_none, errW_some] <;> rfl) | (simp [*, errW_none, errW_some] <;> rfl), by repeat (first | (with_reducible first | exact HB.out | apply below_alloc | apply pw_below_drewN | apply below_drew1 | refine below_set ?_ GE116.out | refine below_set ?_ GE117.out) | exact HB.out)⟩
      ·rw [if_neg c15] at H
       have c15b0 : decide ((bt a0_0 x4_1) < 48) = false := decide_eq_false c15
       clear c15
       by_cases c20 : (bt a0_0 x4_1) > 57
       ·rw [if_pos c20] at H
        have c20b0 : decide (57 < (bt a0_0 x4_1)) = true := decide_eq_true c20
        clear c20
        simp only [Option.some.injEq, Prod.mk.injEq] at H
        obtain ⟨rfl, rfl, rfl⟩ := H
        have hnb21 := NB116_117.out
        have hnc21 := NB117_116.out
        have hcz22_0 : wr.cell? ⟨gb116, 0, none⟩ = some (.string a0_0) := (blk_cell BK116.out 0).trans rfl
        have hcz22_1 : wr.cell? ⟨gb116, 1, none⟩ = some (.int .i64 a0_1) := (blk_cell BK116.out 1).trans rfl
        have hfz22_0 := blk_frozen BK116.out 0
        have hfz22_1 := blk_frozen BK116.out 1
        have p14 : 0 ≤ (x4_1 : Int) := of_decide_eq_true (by first | (with_reducible assumption) | assumption)
        have q14 : x4_1 < (a0_0.size : Int) := of_decide_eq_true (by first | (with_reducible assumption) | assumption)
        have hx14 := bt_at a0_0 x4_1
        replace p14 := eq_true p14
        replace q14 := eq_true q14
        have p19 : 0 ≤ (x4_1 : Int) := of_decide_eq_true (by first | (with_reducible assumption) | assumption)
        have q19 : x4_1 < (a0_0.size : Int) := of_decide_eq_true (by first | (with_reducible assumption) | assumption)
        have hx19 := bt_at a0_0 x4_1
        replace p19 := eq_true p19
        replace q19 := eq_true q19
        have hcz23_0 : wr.cell? ⟨gb117, 0, none⟩ = some (.string x118000_1) := (blk_cell BK117.out 0).trans rfl
        have hcz23_1 : wr.cell? ⟨gb117, 1, none⟩ = some (.int .i64 x118001_1) := (blk_cell BK117.out 1).trans rfl
        have hfz23_0 := blk_frozen BK117.out 0
        have hfz23_1 := blk_frozen BK117.out 1
        go_wp2
        refine bodyPost_ret (results_ct rfl _ _ gb117 23 #[.string (⟨#[]⟩ : ByteArray), .int .i64 0] (0, 0) _ rfl (by (with_reducible repeat (first | refine blk_drewN ?_ _ | refine blk_drew ?_ | refine blk_alloc ?_ _)); refine blk_put (cs := #[.string (⟨#[]⟩ : ByteArray), .int .i64 x118001_1]) ?_ 1 _ rfl; (with_reducible repeat (first | refine blk_drewN ?_ _ | refine blk_drew ?_ | refine blk_alloc ?_ _)); refine blk_put (cs := #[.string x118000_1, .int .i64 x118001_1]) ?_ 0 _ rfl; (with_reducible repeat (first | refine blk_drewN ?_ _ | refine blk_drew ?_ | refine blk_alloc ?_ _)); exact BK117.out) Tryd.underlying23 rfl (by kernel_rfl)) rfl ?_
        exact ⟨by first | rfl | (simp [errW_none, errW_some] <;> rfl) | (simp [*, errW_none, errW_some] <;> rfl), by repeat (first | (with_reducible first | exact HB.out | apply below_alloc | apply pw_below_drewN | apply below_drew1 | refine below_set ?_ GE116.out | refine below_set ?_ GE117.out) | exact HB.out)⟩
       ·rw [if_neg c20] at H
        have c20b0 : decide (57 < (bt a0_0 x4_1)) = false := decide_eq_false c20
        clear c20
        have H' := Aside0.mk H
        clear H
        have hnb24 := NB116_117.out
        have hnc24 := NB117_116.out
        have hcz25_0 : wr.cell? ⟨gb116, 0, none⟩ = some (.string a0_0) := (blk_cell BK116.out 0).trans rfl
        have hcz25_1 : wr.cell? ⟨gb116, 1, none⟩ = some (.int .i64 a0_1) := (blk_cell BK116.out 1).trans rfl
        have hfz25_0 := blk_frozen BK116.out 0
        have hfz25_1 := blk_frozen BK116.out 1
        have p14 : 0 ≤ (x4_1 : Int) := of_decide_eq_true (by first | (with_reducible assumption) | assumption)
        have q14 : x4_1 < (a0_0.size : Int) := of_decide_eq_true (by first | (with_reducible assumption) | assumption)
        have hx14 := bt_at a0_0 x4_1
        replace p14 := eq_true p14
        replace q14 := eq_true q14
        have p19 : 0 ≤ (x4_1 : Int) := of_decide_eq_true (by first | (with_reducible assumption) | assumption)
        have q19 : x4_1 < (a0_0.size : Int) := of_decide_eq_true (by first | (with_reducible assumption) | assumption)
        have hx19 := bt_at a0_0 x4_1
        replace p19 := eq_true p19
        replace q19 := eq_true q19
        go_wp2
        go_roundg k1
        case measure => have := HK1.out; omega
        case rel => exact ⟨(wrap64 (x4_1 + 1)), (x118000_1), (x118001_1), (by first | rfl | (simp; done) | (simp [*]; done)), H', ⟨by have := HK1.out; omega⟩, ⟨by (with_reducible repeat (first | refine blk_drewN ?_ _ | refine blk_drew ?_ | refine blk_alloc ?_ _)); exact BK116.out⟩, ⟨by (with_reducible repeat (first | refine blk_drewN ?_ _ | refine blk_drew ?_ | refine blk_alloc ?_ _)); exact BK117.out⟩, ⟨by repeat (first | (with_reducible first | exact HB.out | apply below_alloc | apply pw_below_drewN | apply below_drew1 | refine below_set ?_ GE116.out | refine below_set ?_ GE117.out) | exact HB.out)⟩⟩
     ·rw [if_neg c13] at H
      exact absurd H (by simp)
    ·rw [if_neg c12] at H
     have c12b0 : decide (x4_1 < (a0_0.size : Int)) = false := decide_eq_false c12
     clear c12
     by_cases c26 : a0_1 < (-5000)
     ·rw [if_pos c26] at H
      have c26b0 : decide (a0_1 < (-5000)) = true := decide_eq_true c26
      clear c26
      simp only [Option.some.injEq, Prod.mk.injEq] at H
      obtain ⟨rfl, rfl, rfl⟩ := H
      have hnb27 := NB116_117.out
      have hnc27 := NB117_116.out
      have hcz28_0 : wr.cell? ⟨gb116, 0, none⟩ = some (.string a0_0) := (blk_cell BK116.out 0).trans rfl
      have hcz28_1 : wr.cell? ⟨gb116, 1, none⟩ = some (.int .i64 a0_1) := (blk_cell BK116.out 1).trans rfl
      have hfz28_0 := blk_frozen BK116.out 0
      have hfz28_1 := blk_frozen BK116.out 1
      have hcz29_0 : wr.cell? ⟨gb117, 0, none⟩ = some (.string x118000_1) := (blk_cell BK117.out 0).trans rfl
      have hcz29_1 : wr.cell? ⟨gb117, 1, none⟩ = some (.int .i64 x118001_1) := (blk_cell BK117.out 1).trans rfl
      have hfz29_0 := blk_frozen BK117.out 0
      have hfz29_1 := blk_frozen BK117.out 1
      go_wp2
      refine bodyPost_ret (results_ct rfl _ _ gb117 23 #[.string (⟨#[]⟩ : ByteArray), .int .i64 0] (0, 0) _ rfl (by (with_reducible repeat (first | refine blk_drewN ?_ _ | refine blk_drew ?_ | refine blk_alloc ?_ _)); refine blk_put (cs := #[.string (⟨#[]⟩ : ByteArray), .int .i64 x118001_1]) ?_ 1 _ rfl; (with_reducible repeat (first | refine blk_drewN ?_ _ | refine blk_drew ?_ | refine blk_alloc ?_ _)); refine blk_put (cs := #[.string x118000_1, .int .i64 x118001_1]) ?_ 0 _ rfl; (with_reducible repeat (first | refine blk_drewN ?_ _ | refine blk_drew ?_ | refine blk_alloc ?_ _)); exact BK117.out) Tryd.underlying23 rfl (by kernel_rfl)) rfl ?_
      exact ⟨by first | rfl | (simp [errW_none, errW_some] <;> rfl) | (simp [*, errW_none, errW_some] <;> rfl), by repeat (first | (with_reducible first | exact HB.out | apply below_alloc | apply pw_below_drewN | apply below_drew1 | refine below_set ?_ GE116.out | refine below_set ?_ GE117.out) | exact HB.out)⟩
     ·rw [if_neg c26] at H
      have c26b0 : decide (a0_1 < (-5000)) = false := decide_eq_false c26
      clear c26
      by_cases c30 : a0_1 > 5000
      ·rw [if_pos c30] at H
       have c30b0 : decide (5000 < a0_1) = true := decide_eq_true c30
       clear c30
       simp only [Option.some.injEq, Prod.mk.injEq] at H
       obtain ⟨rfl, rfl, rfl⟩ := H
       have hnb31 := NB116_117.out
       have hnc31 := NB117_116.out
       have hcz32_0 : wr.cell? ⟨gb116, 0, none⟩ = some (.string a0_0) := (blk_cell BK116.out 0).trans rfl
       have hcz32_1 : wr.cell? ⟨gb116, 1, none⟩ = some (.int .i64 a0_1) := (blk_cell BK116.out 1).trans rfl
       have hfz32_0 := blk_frozen BK116.out 0
       have hfz32_1 := blk_frozen BK116.out 1
       have hcz33_0 : wr.cell? ⟨gb117, 0, none⟩ = some (.string x118000_1) := (blk_cell BK117.out 0).trans rfl
       have hcz33_1 : wr.cell? ⟨gb117, 1, none⟩ = some (.int .i64 x118001_1) := (blk_cell BK117.out 1).trans rfl
       have hfz33_0 := blk_frozen BK117.out 0
       have hfz33_1 := blk_frozen BK117.out 1
       go_wp2
       refine bodyPost_ret (results_ct rfl _ _ gb117 23 #[.string (⟨#[]⟩ : ByteArray), .int .i64 0] (0, 0) _ rfl (by (with_reducible repeat (first | refine blk_drewN ?_ _ | refine blk_drew ?_ | refine blk_alloc ?_ _)); refine blk_put (cs := #[.string (⟨#[]⟩ : ByteArray), .int .i64 x118001_1]) ?_ 1 _ rfl; (with_reducible repeat (first | refine blk_drewN ?_ _ | refine blk_drew ?_ | refine blk_alloc ?_ _)); refine blk_put (cs := #[.string x118000_1, .int .i64 x118001_1]) ?_ 0 _ rfl; (with_reducible repeat (first | refine blk_drewN ?_ _ | refine blk_drew ?_ | refine blk_alloc ?_ _)); exact BK117.out) Tryd.underlying23 rfl (by kernel_rfl)) rfl ?_
       exact ⟨by first | rfl | (simp [errW_none, errW_some] <;> rfl) | (simp [*, errW_none, errW_some] <;> rfl), by repeat (first | (with_reducible first | exact HB.out | apply below_alloc | apply pw_below_drewN | apply below_drew1 | refine below_set ?_ GE116.out | refine below_set ?_ GE117.out) | exact HB.out)⟩
      ·rw [if_neg c30] at H
       have c30b0 : decide (5000 < a0_1) = false := decide_eq_false c30
       clear c30
       replace H := Option.bind_eq_some_iff.mp H
       obtain ⟨⟨t118, t119⟩, A340, H⟩ := H
       replace H : (some (t118, t119, 0)) = some (r1, r2, r3) := H
       have A34 := Aside0.mk A340
       clear A340
       simp only [Option.some.injEq, Prod.mk.injEq] at H
       obtain ⟨rfl, rfl, rfl⟩ := H
       have hnb35 := NB116_117.out
       have hnc35 := NB117_116.out
       have hcz36_0 : wr.cell? ⟨gb116, 0, none⟩ = some (.string a0_0) := (blk_cell BK116.out 0).trans rfl
       have hcz36_1 : wr.cell? ⟨gb116, 1, none⟩ = some (.int .i64 a0_1) := (blk_cell BK116.out 1).trans rfl
       have hfz36_0 := blk_frozen BK116.out 0
       have hfz36_1 := blk_frozen BK116.out 1
       go_wp2_with (first | ((with_reducible refine gate_callee (f := 28) rfl ?_); refine goesL_ (some 40) rfl rfl Tryd.func28 (by kernel_rfl) rfl #[.agg #[.string a0_0, .int .i64 a0_1]] rfl (by (try simp only [List.map_toArray, List.map_cons, List.map_nil]); first | done | rfl | (simp only [List.length_drop, List.length_take]; rfl)) ?_; (with_reducible refine (platenref04_In.calls k1 a0_0 a0_1 t118 t119 _ A34.out).mono ?_); rintro e w37 ⟨rfl, hb⟩; refine ⟨_, rfl, ?_⟩; have n0_ := Aside0.mk (blk_below (g := gb116) (o := .cells #[.string a0_0, .int .i64 a0_1] 23 (0, 0)) (by (with_reducible repeat (first | refine blk_drewN ?_ _ | refine blk_drew ?_ | refine blk_alloc ?_ _)); exact BK116.out) hb); have n1_ := Aside0.mk (blk_below (g := gb117) (o := .cells #[.string x118000_1, .int .i64 x118001_1] 23 (0, 0)) (by (with_reducible repeat (first | refine blk_drewN ?_ _ | refine blk_drew ?_ | refine blk_alloc ?_ _)); exact BK117.out) hb); have n2_ := Aside0.mk (below_step (by repeat (first | (with_reducible first | exact HB.out | apply below_alloc | apply pw_below_drewN | apply below_drew1 | refine below_set ?_ GE116.out | refine below_set ?_ GE117.out) | exact HB.out)) hb); clear BK116; clear BK117; clear HB; have BK116 := n0_; have BK117 := n1_; have HB := n2_; clear n0_ n1_ n2_; (try clear hb); (try clear hb2); (try clear hk); (try clear hi); have hcz38_0 : w37.cell? ⟨gb117, 0, none⟩ = some (.string x118000_1) := (blk_cell BK117.out 0).trans rfl; have hcz38_1 : w37.cell? ⟨gb117, 1, none⟩ = some (.int .i64 x118001_1) := (blk_cell BK117.out 1).trans rfl; have hfz38_0 := blk_frozen BK117.out 0; have hfz38_1 := blk_frozen BK117.out 1))
       refine bodyPost_ret (results_ct rfl _ _ gb117 23 #[.string t118, .int .i64 t119] (0, 0) _ rfl (by (with_reducible repeat (first | refine blk_drewN ?_ _ | refine blk_drew ?_ | refine blk_alloc ?_ _)); refine blk_put (cs := #[.string t118, .int .i64 x118001_1]) ?_ 1 _ rfl; (with_reducible repeat (first | refine blk_drewN ?_ _ | refine blk_drew ?_ | refine blk_alloc ?_ _)); refine blk_put (cs := #[.string x118000_1, .int .i64 x118001_1]) ?_ 0 _ rfl; (with_reducible repeat (first | refine blk_drewN ?_ _ | refine blk_drew ?_ | refine blk_alloc ?_ _)); exact BK117.out) Tryd.underlying23 rfl (by kernel_rfl)) rfl ?_
       exact ⟨by first | rfl | (simp [errW_none, errW_some] <;> rfl) | (simp [*, errW_none, errW_some] <;> rfl), by repeat (first | (with_reducible first | exact HB.out | apply below_alloc | apply pw_below_drewN | apply below_drew1 | refine below_set ?_ GE116.out | refine below_set ?_ GE117.out) | exact HB.out)⟩
end Go.Proofs.YtobidkjmgkmaoaaDoor.Fn
end
section
namespace Go.Proofs.YtobidkjmgkmaoaaDoor.Pure
open Go.RowKit Go.Proofs.YtobidkjmgkmaoaaDoorW.PrintWords Go.Proofs.YtobidkjmgkmaoaaDoor.Fn
set_option linter.unusedVariables false
set_option linter.unusedSimpArgs false
abbrev L (s : ByteArray) : List UInt8 := s.data.toList
def S (l : List UInt8) : ByteArray := ⟨l.toArray⟩
theorem L_S (l : List UInt8) : L (S l) = l := rfl
theorem S_L (s : ByteArray) : S (L s) = s := Lib.mk_data s
theorem size_L (s : ByteArray) : s.size = (L s).length := Lib.size_eq s
theorem size_S (l : List UInt8) : (S l).size = l.length := by rw [size_L, L_S]
theorem toList_L (s : ByteArray) : s.toList = L s := Lib.toList_data s
theorem bt_L (s : ByteArray) (i : Nat) (h : i < s.size) : bt s (i : Int) = (((L s)[i]'(by rw [← size_L]; exact h)).toNat : Int) := by
  unfold bt
  rw [dif_pos (by simpa using h)]
  simp only [Int.toNat_natCast]
  rfl
theorem L_extract (s : ByteArray) (a b : Nat) : L (s.extract a b) = ((L s).drop a).take (b - a) := Lib.extract_data s a b
theorem wrap_id {x : Int} (h1 : -9223372036854775808 ≤ x) (h2 : x ≤ 9223372036854775807) : wrap64 x = x := by unfold wrap64; omega
def decS (d : List UInt8 × Int) : ByteArray × Int := (S d.1, d.2)
theorem trimL (s : ByteArray) : strings_TrimLeft.f s ⟨#[48]⟩ = some (S (dz (L s))) := by
  show (if (48 : UInt8).toNat < 128 then some ((⟨(Lib.trimLeftB s.data.toList 48).toArray⟩ : ByteArray)) else none) = _
  rw [if_pos (by decide)]; rfl
theorem trimR (s : ByteArray) (h : s.size ≤ 9223372036854775807) : strings_TrimRight.f s ⟨#[48]⟩ = some (S (rz (L s))) := by
  show (if (48 : UInt8).toNat < 128 ∧ s.size ≤ 9223372036854775807 then some ((⟨(Lib.trimRightB s.data.toList 48).toArray⟩ : ByteArray)) else none) = _
  rw [if_pos ⟨by decide, h⟩]; rfl
theorem form_eq (s : ByteArray) (p : Int) (hs : s.size ≤ 4611686018427387904) (h1 : -4611686018427387904 ≤ p) (h2 : p ≤ 4611686018427387904) : bigdec_form.f s p = some (decS (formL (L s) p)) := by
  have hl := length_dz (L s)
  rw [← size_L] at hl
  unfold bigdec_form.f
  rw [trimL, Option.bind_some, trimR _ (by rw [size_S]; omega), Option.bind_some, toList_L, L_S, L_S]
  unfold formL decS
  by_cases h : rz (dz (L s)) = []
  · rw [if_pos h, if_pos h]; rfl
  · rw [if_neg h, if_neg h, size_S, wrap_id (x := (s.size : Int) - _) (by omega) (by omega), wrap_id (by omega) (by omega), size_L]
def normTail (l0 : List UInt8) (p : Int) (l : List UInt8) : ByteArray × Int × Int :=
  if l.all isD = true then (if p < -5000 then (⟨#[]⟩, 0, 2) else if p > 5000 then (⟨#[]⟩, 0, 2) else ((decS (formL l0 p)).1, (decS (formL l0 p)).2, 0)) else (⟨#[]⟩, 0, 4)
def normS (s : ByteArray) (p : Int) : ByteArray × Int × Int := if s.size > 2000 then (⟨#[]⟩, 0, 2) else normTail (L s) p (L s)
theorem isD_iff (c : UInt8) : isD c = true ↔ 48 ≤ c.toNat ∧ c.toNat ≤ 57 := by
  unfold isD; simp
theorem drop_at (l : List UInt8) (i : Nat) (h : i < l.length) : l.drop i = l[i] :: l.drop (i + 1) := List.drop_eq_getElem_cons h
theorem norm_l0 (s : ByteArray) (p : Int) (hs : s.size ≤ 2000) : ∀ d i, i + d = s.size → Ev (fun k => bigdec_Norm.l0 k (bytesOf s) (s.size : Int) (i : Int) s p) (normTail (L s) p ((L s).drop i)) := by
  intro d
  induction d with
  | zero =>
    intro i hi
    refine Ev.step (f := fun _ => some (normTail (L s) p ((L s).drop i))) (fun k => ?_) (Ev.now _)
    simp only [bigdec_Norm.l0]
    rw [if_neg (by omega)]
    have : (L s).drop i = [] := List.drop_of_length_le (by rw [← size_L]; omega)
    rw [this]
    unfold normTail
    rw [if_pos (show ([] : List UInt8).all isD = true from rfl)]
    by_cases h1 : p < -5000
    · rw [if_pos h1, if_pos h1]
    · rw [if_neg h1, if_neg h1]
      by_cases h2 : p > 5000
      · rw [if_pos h2, if_pos h2]
      · rw [if_neg h2, if_neg h2, form_eq s p (by omega) (by omega) (by omega)]; rfl
  | succ d ih =>
    intro i hi
    have hlt : i < s.size := by omega
    have hc : rd (bytesOf s) (i : Int) = (((L s)[i]'(by rw [← size_L]; exact hlt)).toNat : Int) := (rd_bytesOf s i).trans (bt_L s i hlt)
    have hd := drop_at (L s) i (by rw [← size_L]; exact hlt)
    generalize hcc : (L s)[i]'(by rw [← size_L]; exact hlt) = c at hc hd
    have hlen : ((bytesOf s).length : Int) = (s.size : Int) := by rw [bytesOf_length]
    by_cases hb : isD c = true
    · have h48 := (isD_iff c).1 hb
      have e : normTail (L s) p ((L s).drop i) = normTail (L s) p ((L s).drop (i + 1)) := by
        rw [hd]; unfold normTail
        rw [List.all_cons, hb, Bool.true_and]
      rw [e]
      refine Ev.step (f := fun k => bigdec_Norm.l0 k (bytesOf s) (s.size : Int) ((i + 1 : Nat) : Int) s p) (fun k => ?_) (ih (i + 1) (by omega))
      simp only [bigdec_Norm.l0]
      rw [if_pos (by omega), if_pos (by omega), if_pos (by omega), hc, if_neg (by omega), if_neg (by omega), wrap_id (by omega) (by omega)]
      rfl
    · have e : normTail (L s) p ((L s).drop i) = (⟨#[]⟩, 0, 4) := by
        rw [hd]; unfold normTail
        rw [List.all_cons, if_neg (by simp [hb])]
      rw [e]
      have h48 : ¬ (48 ≤ c.toNat ∧ c.toNat ≤ 57) := fun h => hb ((isD_iff c).2 h)
      refine Ev.step (f := fun _ => some ((⟨#[]⟩ : ByteArray), (0 : Int), (4 : Int))) (fun k => ?_) (Ev.now _)
      simp only [bigdec_Norm.l0]
      rw [if_pos (by omega), if_pos (by omega), if_pos (by omega), hc]
      by_cases h1 : (c.toNat : Int) < 48
      · rw [if_pos h1]
      · rw [if_neg h1, if_pos (by omega)]
theorem norm_eq (s : ByteArray) (p : Int) : Ev (fun k => bigdec_Norm.f k s p) (normS s p) := by
  unfold bigdec_Norm.f normS
  by_cases h : s.size > 2000
  · rw [if_pos h]
    exact Ev.congr (fun k => by rw [if_pos (by omega)]) (Ev.now _)
  · rw [if_neg h]
    refine Ev.congr (f := fun k => bigdec_Norm.l0 k (bytesOf s) (s.size : Int) ((0 : Nat) : Int) s p) (fun k => ?_) ?_
    · rw [if_neg (by omega), if_pos (by omega), Option.bind_some, bytesOf_length]; rfl
    · have := norm_l0 s p (by omega) s.size 0 (by omega)
      rw [List.drop_zero] at this
      exact this
theorem rIn_l1 (p : Int) : ∀ (n : Nat) (s : ByteArray), s.size = n → n ≤ 1000000 → (L s = [] → p = p) → Ev (fun k => platenref04_In.l1 k s p) (S (rz (L s)), if rz (L s) = [] then 0 else p) := by
  intro n
  induction n with
  | zero =>
    intro s hs _ _
    have hl : L s = [] := List.eq_nil_of_length_eq_zero (by rw [← size_L]; exact hs)
    refine Ev.step (f := fun _ => some (s, (0 : Int))) (fun k => ?_) ?_
    · simp only [platenref04_In.l1]
      rw [if_pos (by rw [toList_L, hl])]
    · rw [hl, rz_nil, if_pos rfl]
      have : s = S [] := by rw [← S_L s, hl]
      rw [this]; exact Ev.now _
  | succ n ih =>
    intro s hs hn _
    have hne : L s ≠ [] := by intro e; have h_ := size_L s; rw [e, List.length_nil] at h_; omega
    obtain ⟨t, c, hl⟩ : ∃ t c, L s = t ++ [c] := by
      rcases List.eq_nil_or_concat (L s) with h | ⟨t, c, h⟩
      · exact absurd h hne
      · exact ⟨t, c, by rw [h, List.concat_eq_append]⟩
    have htl : t.length = n := by have := size_L s; rw [hl, List.length_append] at this; simp at this; omega
    have hb : bt s ((n : Nat) : Int) = (c.toNat : Int) := by
      rw [bt_L s n (by omega)]
      have : (L s)[n]'(by rw [← size_L]; omega) = c := by
        simp only [hl]
        rw [List.getElem_append_right (by omega)]
        simp [htl]
      rw [this]
    have hw : wrap64 ((s.size : Int) - 1) = (n : Int) := by rw [wrap_id (by omega) (by omega)]; omega
    by_cases h : c.toNat = 48
    · have hx : L (s.extract 0 n) = t := by rw [L_extract, hl]; simp [htl]
      rw [hl, rz_snoc_eq h]
      have := ih (s.extract 0 n) (by rw [size_L, hx, htl]) (by omega) (fun _ => rfl)
      rw [hx] at this
      refine Ev.step (f := fun k => platenref04_In.l1 k (s.extract 0 n) p) (fun k => ?_) this
      simp only [platenref04_In.l1]
      rw [if_neg (by rw [toList_L]; exact hne), hw, if_pos (by omega), if_pos (by omega), hb, if_pos (by omega), if_pos (by omega)]
      simp
    · rw [hl, rz_snoc_ne h, if_neg (by simp)]
      refine Ev.step (f := fun _ => some (s, p)) (fun k => ?_) ?_
      · simp only [platenref04_In.l1]
        rw [if_neg (by rw [toList_L]; exact hne), hw, if_pos (by omega), if_pos (by omega), hb, if_neg (by omega)]
      · have : s = S (t ++ [c]) := by rw [← hl, S_L]
        rw [this]; exact Ev.now _
theorem rIn_l0 : ∀ (n : Nat) (s : ByteArray) (p : Int), s.size = n → n ≤ 1000000 → -4611686018427387904 + n ≤ p → p ≤ 4611686018427387904 → Ev (fun k => platenref04_In.l0 k s p) (decS (formL (L s) p)) := by
  intro n
  induction n with
  | zero =>
    intro s p hs _ _ _
    have hl : L s = [] := List.eq_nil_of_length_eq_zero (by rw [← size_L]; exact hs)
    have h1 := rIn_l1 p 0 s hs (by omega) (fun _ => rfl)
    refine Ev.step (f := fun k => platenref04_In.j1 k s p) (fun k => ?_) (Ev.step (f := fun k => platenref04_In.l1 k s p) (fun k => rfl) ?_)
    · simp only [platenref04_In.l0]
      rw [if_pos (by rw [toList_L, hl])]
    · rw [hl] at h1 ⊢
      exact h1
  | succ n ih =>
    intro s p hs hn h1 h2
    have hne : L s ≠ [] := by intro e; have h_ := size_L s; rw [e, List.length_nil] at h_; omega
    obtain ⟨c, t, hl⟩ : ∃ c t, L s = c :: t := by
      cases h : L s with
      | nil => exact absurd h hne
      | cons c t => exact ⟨c, t, rfl⟩
    have htl : t.length = n := by have := size_L s; rw [hl, List.length_cons] at this; omega
    have hb : bt s ((0 : Nat) : Int) = (c.toNat : Int) := by
      rw [bt_L s 0 (by omega)]
      simp only [hl]
      rfl
    by_cases h : c.toNat = 48
    · have hx : L (s.extract 1 s.size) = t := by rw [L_extract, hl]; simp [List.take_of_length_le, htl, hs]
      have := ih (s.extract 1 s.size) (p - 1) (by rw [size_L, hx, htl]) (by omega) (by omega) (by omega)
      rw [hx] at this
      have e : formL (L s) p = formL t (p - 1) := by
        rw [hl]; unfold formL
        rw [dz_cons_eq h]
        by_cases hz : rz (dz t) = []
        · rw [if_pos hz, if_pos hz]
        · rw [if_neg hz, if_neg hz, List.length_cons]
          congr 1
          omega
      rw [e]
      refine Ev.step (f := fun k => platenref04_In.l0 k (s.extract 1 s.size) (p - 1)) (fun k => ?_) this
      simp only [platenref04_In.l0]
      rw [if_neg (by rw [toList_L]; exact hne), if_pos (by omega)]
      rw [show ((0 : Int)) = ((0 : Nat) : Int) from rfl, hb, if_pos (by omega), if_pos (by omega), wrap_id (by omega) (by omega)]
    · have h3 := rIn_l1 p (n + 1) s hs (by omega) (fun _ => rfl)
      have e : decS (formL (L s) p) = (S (rz (L s)), if rz (L s) = [] then 0 else p) := by
        unfold formL decS
        rw [hl, dz_cons_ne h]
        by_cases hz : rz (c :: t) = []
        · rw [if_pos hz, if_pos hz, hz]
        · rw [if_neg hz, if_neg hz]
          congr 1
          show p - _ = p
          omega
      rw [e]
      refine Ev.step (f := fun k => platenref04_In.j1 k s p) (fun k => ?_) (Ev.step (f := fun k => platenref04_In.l1 k s p) (fun k => rfl) h3)
      simp only [platenref04_In.l0]
      rw [if_neg (by rw [toList_L]; exact hne), if_pos (by omega)]
      rw [show ((0 : Int)) = ((0 : Nat) : Int) from rfl, hb, if_neg (by omega)]
theorem rIn_eq (s : ByteArray) (p : Int) (hs : s.size ≤ 1000000) (h1 : -4000000000000000000 ≤ p) (h2 : p ≤ 4000000000000000000) : Ev (fun k => platenref04_In.f k s p) (decS (formL (L s) p)) :=
  rIn_l0 s.size s p rfl hs (by omega) (by omega)
theorem rNorm_l0 (s : ByteArray) (p : Int) (hs : s.size ≤ 2000) : ∀ d i, i + d = s.size → Ev (fun k => platenref04_Norm.l0 k (i : Int) s p) (normTail (L s) p ((L s).drop i)) := by
  intro d
  induction d with
  | zero =>
    intro i hi
    have hn : (L s).drop i = [] := List.drop_of_length_le (by rw [← size_L]; omega)
    rw [hn]
    unfold normTail
    rw [if_pos (show ([] : List UInt8).all isD = true from rfl)]
    by_cases h1 : p < -5000
    · rw [if_pos h1]
      refine Ev.step (f := fun _ => some ((⟨#[]⟩ : ByteArray), (0 : Int), (2 : Int))) (fun k => ?_) (Ev.now _)
      simp only [platenref04_Norm.l0]
      rw [if_neg (by omega), if_pos h1]
    · rw [if_neg h1]
      by_cases h2 : p > 5000
      · rw [if_pos h2]
        refine Ev.step (f := fun _ => some ((⟨#[]⟩ : ByteArray), (0 : Int), (2 : Int))) (fun k => ?_) (Ev.now _)
        simp only [platenref04_Norm.l0]
        rw [if_neg (by omega), if_neg h1, if_pos h2]
      · rw [if_neg h2]
        refine Ev.step (f := fun k => (platenref04_In.f k s p).bind fun bt118 => (some (bt118.1, bt118.2, 0))) (fun k => ?_) (Ev.bind (rIn_eq s p (by omega) (by omega) (by omega)) (Ev.now _))
        simp only [platenref04_Norm.l0]
        rw [if_neg (by omega), if_neg h1, if_neg h2]
  | succ d ih =>
    intro i hi
    have hlt : i < s.size := by omega
    have hc : bt s (i : Int) = (((L s)[i]'(by rw [← size_L]; exact hlt)).toNat : Int) := bt_L s i hlt
    have hd := drop_at (L s) i (by rw [← size_L]; exact hlt)
    generalize hcc : (L s)[i]'(by rw [← size_L]; exact hlt) = c at hc hd
    by_cases hb : isD c = true
    · have h48 := (isD_iff c).1 hb
      have e : normTail (L s) p ((L s).drop i) = normTail (L s) p ((L s).drop (i + 1)) := by
        rw [hd]; unfold normTail
        rw [List.all_cons, hb, Bool.true_and]
      rw [e]
      refine Ev.step (f := fun k => platenref04_Norm.l0 k ((i + 1 : Nat) : Int) s p) (fun k => ?_) (ih (i + 1) (by omega))
      simp only [platenref04_Norm.l0]
      rw [if_pos (by omega), if_pos (by omega), hc, if_neg (by omega), if_neg (by omega), wrap_id (by omega) (by omega)]
      rfl
    · have e : normTail (L s) p ((L s).drop i) = (⟨#[]⟩, 0, 4) := by
        rw [hd]; unfold normTail
        rw [List.all_cons, if_neg (by simp [hb])]
      rw [e]
      have h48 : ¬ (48 ≤ c.toNat ∧ c.toNat ≤ 57) := fun h => hb ((isD_iff c).2 h)
      refine Ev.step (f := fun _ => some ((⟨#[]⟩ : ByteArray), (0 : Int), (4 : Int))) (fun k => ?_) (Ev.now _)
      simp only [platenref04_Norm.l0]
      rw [if_pos (by omega), if_pos (by omega), hc]
      by_cases h1 : (c.toNat : Int) < 48
      · rw [if_pos h1]
      · rw [if_neg h1, if_pos (by omega)]
theorem rNorm_eq (s : ByteArray) (p : Int) : Ev (fun k => platenref04_Norm.f k s p) (normS s p) := by
  unfold platenref04_Norm.f normS
  by_cases h : s.size > 2000
  · rw [if_pos h]
    exact Ev.congr (fun k => by rw [if_pos (by omega)]) (Ev.now _)
  · rw [if_neg h]
    have := rNorm_l0 s p (by omega) s.size 0 (by omega)
    rw [List.drop_zero] at this
    exact Ev.congr (fun k => by rw [if_neg (by omega)]; rfl) this
end Go.Proofs.YtobidkjmgkmaoaaDoor.Pure
end
section
namespace Go.Proofs.YtobidkjmgkmaoaaDoor.Pure
open Go.RowKit Go.Proofs.YtobidkjmgkmaoaaDoorW.PrintWords
set_option linter.unusedVariables false
set_option linter.unusedSimpArgs false
theorem tmod_id {x y : Int} (h : 0 ≤ x) : Int.tmod x y = x % y := Int.tmod_eq_emod_of_nonneg h
theorem tdiv_id {x y : Int} (h : 0 ≤ x) : Int.tdiv x y = x / y := Int.tdiv_eq_ediv_of_nonneg h
def InB (B : Nat) (xs : List Int) : Prop := ∀ x ∈ xs, 0 ≤ x ∧ x < (B : Int)
def lv (B : Nat) : List Int → Nat
  | [] => 0
  | x :: xs => x.toNat + B * lv B xs
theorem InB.nil (B : Nat) : InB B [] := fun x h => by cases h
theorem InB.cons {B : Nat} {x : Int} {xs : List Int} (h : InB B (x :: xs)) : (0 ≤ x ∧ x < (B : Int)) ∧ InB B xs := ⟨h x List.mem_cons_self, fun y hy => h y (List.mem_cons_of_mem _ hy)⟩
theorem InB.mk {B : Nat} {x : Int} {xs : List Int} (h1 : 0 ≤ x ∧ x < (B : Int)) (h2 : InB B xs) : InB B (x :: xs) := by
  intro y hy
  rcases List.mem_cons.1 hy with rfl | h
  · exact h1
  · exact h2 y h
theorem InB.left {B : Nat} {a b : List Int} (h : InB B (a ++ b)) : InB B a := fun x hx => h x (List.mem_append_left _ hx)
theorem InB.append {B : Nat} {a b : List Int} (ha : InB B a) (hb : InB B b) : InB B (a ++ b) := fun x hx => (List.mem_append.1 hx).elim (ha x) (hb x)
theorem lv_append (B : Nat) (a b : List Int) : lv B (a ++ b) = lv B a + B ^ a.length * lv B b := by
  induction a with
  | nil => simp [lv]
  | cons x a ih =>
    rw [List.cons_append, lv, lv, ih, List.length_cons, Nat.pow_succ, Nat.mul_add]
    have : B * (B ^ a.length * lv B b) = B ^ a.length * B * lv B b := by rw [← Nat.mul_assoc, Nat.mul_comm B]
    omega
theorem rd_mid (a : List Int) (x : Int) (b : List Int) : rd (a ++ x :: b) (a.length : Int) = x := by
  unfold rd
  simp [List.getD_eq_getElem?_getD]
theorem set_mid (a : List Int) (x y : Int) (b : List Int) : (a ++ x :: b).set a.length y = a ++ y :: b := by
  rw [List.set_append_right _ _ (Nat.le_refl _)]
  simp
def dLE : Nat → Nat → List Int
  | 0, _ => []
  | f + 1, n => if n = 0 then [] else ((n % 10 : Nat) : Int) :: dLE f (n / 10)
theorem dLE_val : ∀ (f n : Nat), n < 10 ^ f → lv 10 (dLE f n) = n
  | 0, n, h => by simp at h; subst h; rfl
  | f + 1, n, h => by
    unfold dLE
    by_cases h0 : n = 0
    · rw [if_pos h0, h0]; rfl
    · rw [if_neg h0, lv, dLE_val f (n / 10) (by rw [Nat.pow_succ] at h; omega), Int.toNat_natCast]
      omega
def textLE (l : List Int) : List UInt8 := l.reverse.map fun x => ch x.toNat
theorem textLE_val {l : List Int} (h : InB 10 l) : val (textLE l) = lv 10 l := by
  induction l with
  | nil => rfl
  | cons x l ih =>
    have := ih h.cons.2
    unfold textLE at this ⊢
    rw [List.reverse_cons, List.map_append, List.map_cons, List.map_nil, val_snoc, this, lv, dig_ch (by have := h.cons.1; omega)]
    omega
theorem textLE_all {l : List Int} (h : InB 10 l) : AllD (textLE l) := by
  intro c hc
  obtain ⟨x, hx, rfl⟩ := List.mem_map.1 hc
  have := h x (List.mem_reverse.1 hx)
  rw [ch_toNat (by omega)]
  omega
theorem textLE_len (l : List Int) : (textLE l).length = l.length := by simp [textLE]
theorem L_strOfNums (xs : List Int) : L (strOfNums xs) = xs.map fun n => UInt8.ofNat n.toNat := strOfNums_data xs
theorem digs_len : ∀ (k n : Nat), n < 10 ^ k → (digs n).length ≤ k
  | 0, n, h => by simp at h; subst h; exact Nat.le_refl _
  | k + 1, n, h => by
    by_cases h0 : n = 0
    · subst h0; exact Nat.zero_le _
    · rw [digs_step h0, List.length_append]
      have := digs_len k (n / 10) (by rw [Nat.pow_succ] at h; omega)
      simp
      omega
end Go.Proofs.YtobidkjmgkmaoaaDoor.Pure
end
section
namespace Go.Proofs.YtobidkjmgkmaoaaDoor.Fn
open Go.RowKit Go.Proofs.YtobidkjmgkmaoaaDoorW.PrintWords Go.Proofs.YtobidkjmgkmaoaaDoorW.PrintLast Go.Proofs.YtobidkjmgkmaoaaDoorW.PrintMore
attribute [local go_sem] max2_int min2_int max_two min_two
set_option linter.unusedVariables false
set_option linter.unusedSimpArgs false
def platenref04_digit.f (a0_0 : ByteArray) (a0_1 : Int) (a1 : Int) : Option (Int) := if (wrap64 ((wrap64 (a0_1 - 1)) - a1)) < 0 then (some 0) else (if (wrap64 ((wrap64 (a0_1 - 1)) - a1)) ≥ (a0_0.size : Int) then (some 0) else (if 0 ≤ (wrap64 ((wrap64 (a0_1 - 1)) - a1)) then (if (wrap64 ((wrap64 (a0_1 - 1)) - a1)) < (a0_0.size : Int) then (some (((bt a0_0 (wrap64 ((wrap64 (a0_1 - 1)) - a1))) - 48) % 256)) else (none)) else (none)))
set_option maxHeartbeats 8000000 in
set_option maxRecDepth 100000 in
theorem platenref04_digit.calls (a0_0 : ByteArray) (a0_1 : Int) (a1 : Int) (r : Int) (w : World) (h : platenref04_digit.f a0_0 a0_1 a1 = some r) :
  Calls Tryd.prog 45 #[.agg #[.string a0_0, .int .i64 a0_1], .int .i64 a1] w fun e w' => e = .returned (.int .i64 r) ∧ Below w.heap.size w w' := by
 have hu23 := Tryd.underlying23
 have HB := Aside0.mk (Below.refl w.heap.size w)
 have H : (if (wrap64 ((wrap64 (a0_1 - 1)) - a1)) < 0 then (some 0) else (if (wrap64 ((wrap64 (a0_1 - 1)) - a1)) ≥ (a0_0.size : Int) then (some 0) else (if 0 ≤ (wrap64 ((wrap64 (a0_1 - 1)) - a1)) then (if (wrap64 ((wrap64 (a0_1 - 1)) - a1)) < (a0_0.size : Int) then (some (((bt a0_0 (wrap64 ((wrap64 (a0_1 - 1)) - a1))) - 48) % 256)) else (none)) else (none)))) = some r := h
 clear h
 by_cases c3 : (wrap64 ((wrap64 (a0_1 - 1)) - a1)) < 0
 ·rw [if_pos c3] at H
  have c3b0 : decide ((wrap64 ((wrap64 (a0_1 - 1)) - a1)) < 0) = true := decide_eq_true c3
  clear c3
  obtain rfl := Option.some.inj H
  go_enter Tryd.func45, Tryd.ntmps45
  go_wp2_with (first | ((with_reducible refine gate_dst (N := 2) rfl ?_); (try (refine gate_guard (by rfl) ?_; dsimp only)); refine box_event ?hg (N := 2) ?hd (cs := #[.string a0_0, .int .i64 a0_1]) (t := 23) ?hr ?_; (case hd => rfl); (case hg => rfl); (case hr => first | (go_simp; done) | (go_simp; rfl)); intro gb218 hg w4 hbox hb; have n0_ := Aside0.mk (below_step (by repeat (first | (with_reducible first | exact HB.out | apply below_alloc | apply pw_below_drewN | apply below_drew1) | exact HB.out)) hb); have n1_ := Aside0.mk (hbox); have n2_ := Aside0.mk ((by rw [hg]; exact (below_size (by repeat (first | (with_reducible first | exact HB.out | apply below_alloc | apply pw_below_drewN | apply below_drew1) | exact HB.out))) : w.heap.size ≤ gb218)); have n3_ := Aside0.mk ((by rw [hg]; exact (below_size (by repeat (first | (with_reducible first | exact HB.out | apply below_alloc | apply pw_below_drewN | apply below_drew1) | exact HB.out))) : w.heap.size ≤ gb218)); clear HB; have HB := n0_; have BK218 := n1_; have GW218 := n2_; have GE218 := n3_; clear n0_ n1_ n2_ n3_; clear hb hbox hg; have hcz5_0 : w4.cell? ⟨gb218, 0, none⟩ = some (.string a0_0) := (blk_cell BK218.out 0).trans rfl; have hcz5_1 : w4.cell? ⟨gb218, 1, none⟩ = some (.int .i64 a0_1) := (blk_cell BK218.out 1).trans rfl; have hfz5_0 := blk_frozen BK218.out 0; have hfz5_1 := blk_frozen BK218.out 1))
  go_ret
  exact ⟨by first | rfl | (simp [errW_none, errW_some] <;> rfl) | (simp [*, errW_none, errW_some] <;> rfl), by repeat (first | (with_reducible first | exact HB.out | apply below_alloc | apply pw_below_drewN | apply below_drew1 | refine below_set ?_ GE218.out) | exact HB.out)⟩
 ·rw [if_neg c3] at H
  have c3b0 : decide ((wrap64 ((wrap64 (a0_1 - 1)) - a1)) < 0) = false := decide_eq_false c3
  clear c3
  by_cases c6 : (wrap64 ((wrap64 (a0_1 - 1)) - a1)) ≥ (a0_0.size : Int)
  ·rw [if_pos c6] at H
   have c6b0 : decide ((a0_0.size : Int) ≤ (wrap64 ((wrap64 (a0_1 - 1)) - a1))) = true := decide_eq_true c6
   clear c6
   obtain rfl := Option.some.inj H
   go_enter Tryd.func45, Tryd.ntmps45
   go_wp2_with (first | ((with_reducible refine gate_dst (N := 2) rfl ?_); (try (refine gate_guard (by rfl) ?_; dsimp only)); refine box_event ?hg (N := 2) ?hd (cs := #[.string a0_0, .int .i64 a0_1]) (t := 23) ?hr ?_; (case hd => rfl); (case hg => rfl); (case hr => first | (go_simp; done) | (go_simp; rfl)); intro gb218 hg w7 hbox hb; have n0_ := Aside0.mk (below_step (by repeat (first | (with_reducible first | exact HB.out | apply below_alloc | apply pw_below_drewN | apply below_drew1) | exact HB.out)) hb); have n1_ := Aside0.mk (hbox); have n2_ := Aside0.mk ((by rw [hg]; exact (below_size (by repeat (first | (with_reducible first | exact HB.out | apply below_alloc | apply pw_below_drewN | apply below_drew1) | exact HB.out))) : w.heap.size ≤ gb218)); have n3_ := Aside0.mk ((by rw [hg]; exact (below_size (by repeat (first | (with_reducible first | exact HB.out | apply below_alloc | apply pw_below_drewN | apply below_drew1) | exact HB.out))) : w.heap.size ≤ gb218)); clear HB; have HB := n0_; have BK218 := n1_; have GW218 := n2_; have GE218 := n3_; clear n0_ n1_ n2_ n3_; clear hb hbox hg; have hcz8_0 : w7.cell? ⟨gb218, 0, none⟩ = some (.string a0_0) := (blk_cell BK218.out 0).trans rfl; have hcz8_1 : w7.cell? ⟨gb218, 1, none⟩ = some (.int .i64 a0_1) := (blk_cell BK218.out 1).trans rfl; have hfz8_0 := blk_frozen BK218.out 0; have hfz8_1 := blk_frozen BK218.out 1))
   go_ret
   exact ⟨by first | rfl | (simp [errW_none, errW_some] <;> rfl) | (simp [*, errW_none, errW_some] <;> rfl), by repeat (first | (with_reducible first | exact HB.out | apply below_alloc | apply pw_below_drewN | apply below_drew1 | refine below_set ?_ GE218.out) | exact HB.out)⟩
  ·rw [if_neg c6] at H
   have c6b0 : decide ((a0_0.size : Int) ≤ (wrap64 ((wrap64 (a0_1 - 1)) - a1))) = false := decide_eq_false c6
   clear c6
   obtain ⟨ji9, hji9⟩ : ∃ j_ : Int, (wrap64 ((wrap64 (a0_1 - 1)) - a1)) = j_ := ⟨_, rfl⟩
   replace H : (if 0 ≤ (ji9) then (if (ji9) < (a0_0.size : Int) then (some (((bt a0_0 (ji9)) - 48) % 256)) else (none)) else (none)) = some r := by first | (rw [hji9] at H; exact H) | (simp only [hji9] at H ⊢; exact H)
   (try rw [hji9] at c3b0)
   (try rw [hji9] at c6b0)
   have hji9w : (IntKind.i64.wrap ((wrap64 (a0_1 - 1)) - a1)) = ji9 := (i64_w _).trans hji9
   by_cases c10 : 0 ≤ (ji9)
   ·rw [if_pos c10] at H
    have c10b0 : decide (0 ≤ (ji9)) = true := decide_eq_true c10
    clear c10
    by_cases c11 : (ji9) < (a0_0.size : Int)
    ·rw [if_pos c11] at H
     have c11b0 : decide ((ji9) < (a0_0.size : Int)) = true := decide_eq_true c11
     clear c11
     obtain rfl := Option.some.inj H
     go_enter Tryd.func45, Tryd.ntmps45
     go_wp2_with (first | ((with_reducible refine gate_dst (N := 2) rfl ?_); (try (refine gate_guard (by rfl) ?_; dsimp only)); refine box_event ?hg (N := 2) ?hd (cs := #[.string a0_0, .int .i64 a0_1]) (t := 23) ?hr ?_; (case hd => rfl); (case hg => rfl); (case hr => first | (go_simp; done) | (go_simp; rfl)); intro gb218 hg w13 hbox hb; have n0_ := Aside0.mk (below_step (by repeat (first | (with_reducible first | exact HB.out | apply below_alloc | apply pw_below_drewN | apply below_drew1) | exact HB.out)) hb); have n1_ := Aside0.mk (hbox); have n2_ := Aside0.mk ((by rw [hg]; exact (below_size (by repeat (first | (with_reducible first | exact HB.out | apply below_alloc | apply pw_below_drewN | apply below_drew1) | exact HB.out))) : w.heap.size ≤ gb218)); have n3_ := Aside0.mk ((by rw [hg]; exact (below_size (by repeat (first | (with_reducible first | exact HB.out | apply below_alloc | apply pw_below_drewN | apply below_drew1) | exact HB.out))) : w.heap.size ≤ gb218)); clear HB; have HB := n0_; have BK218 := n1_; have GW218 := n2_; have GE218 := n3_; clear n0_ n1_ n2_ n3_; clear hb hbox hg; have hcz14_0 : w13.cell? ⟨gb218, 0, none⟩ = some (.string a0_0) := (blk_cell BK218.out 0).trans rfl; have hcz14_1 : w13.cell? ⟨gb218, 1, none⟩ = some (.int .i64 a0_1) := (blk_cell BK218.out 1).trans rfl; have hfz14_0 := blk_frozen BK218.out 0; have hfz14_1 := blk_frozen BK218.out 1; have p12 : 0 ≤ ((ji9) : Int) := of_decide_eq_true (by first | (with_reducible assumption) | assumption); have q12 : (ji9) < (a0_0.size : Int) := of_decide_eq_true (by first | (with_reducible assumption) | assumption); have hx12 := bt_at a0_0 (ji9); replace p12 := eq_true p12; replace q12 := eq_true q12))
     go_ret
     exact ⟨by first | rfl | (simp [errW_none, errW_some] <;> rfl) | (simp only [← hji9]; first | rfl | (simp [errW_none, errW_some] <;> rfl)) | (simp [*, errW_none, errW_some] <;> rfl), by repeat (first | (with_reducible first | exact HB.out | apply below_alloc | apply pw_below_drewN | apply below_drew1 | refine below_set ?_ GE218.out) | exact HB.out)⟩
    ·rw [if_neg c11] at H
     exact absurd H (by simp)
   ·rw [if_neg c10] at H
    exact absurd H (by simp)
end Go.Proofs.YtobidkjmgkmaoaaDoor.Fn
end
section
namespace Go.Proofs.YtobidkjmgkmaoaaDoor.Fn
open Go.RowKit Go.Proofs.YtobidkjmgkmaoaaDoorW.PrintWords Go.Proofs.YtobidkjmgkmaoaaDoorW.PrintLast Go.Proofs.YtobidkjmgkmaoaaDoorW.PrintMore
attribute [local go_sem] max2_int min2_int max_two min_two
set_option linter.unusedVariables false
set_option linter.unusedSimpArgs false
def platenref04_low.f (a0_0 : ByteArray) (a0_1 : Int) : Option (Int) := some (wrap64 (a0_1 - (a0_0.size : Int)))
set_option maxHeartbeats 8000000 in
set_option maxRecDepth 100000 in
theorem platenref04_low.calls (a0_0 : ByteArray) (a0_1 : Int) (r : Int) (w : World) (h : platenref04_low.f a0_0 a0_1 = some r) :
  Calls Tryd.prog 44 #[.agg #[.string a0_0, .int .i64 a0_1]] w fun e w' => e = .returned (.int .i64 r) ∧ Below w.heap.size w w' := by
 have hu23 := Tryd.underlying23
 have HB := Aside0.mk (Below.refl w.heap.size w)
 have H : (some (wrap64 (a0_1 - (a0_0.size : Int)))) = some r := h
 clear h
 obtain rfl := Option.some.inj H
 go_enter Tryd.func44, Tryd.ntmps44
 go_wp2_with (first | ((with_reducible refine gate_dst (N := 1) rfl ?_); refine box_event ?hg (N := 1) ?hd (cs := #[.string a0_0, .int .i64 a0_1]) (t := 23) ?hr ?_; (case hd => rfl); (case hg => rfl); (case hr => first | (go_simp; done) | (go_simp; rfl)); intro gb217 hg w2 hbox hb; have n0_ := Aside0.mk (below_step (by repeat (first | (with_reducible first | exact HB.out | apply below_alloc | apply pw_below_drewN | apply below_drew1) | exact HB.out)) hb); have n1_ := Aside0.mk (hbox); have n2_ := Aside0.mk ((by rw [hg]; exact (below_size (by repeat (first | (with_reducible first | exact HB.out | apply below_alloc | apply pw_below_drewN | apply below_drew1) | exact HB.out))) : w.heap.size ≤ gb217)); have n3_ := Aside0.mk ((by rw [hg]; exact (below_size (by repeat (first | (with_reducible first | exact HB.out | apply below_alloc | apply pw_below_drewN | apply below_drew1) | exact HB.out))) : w.heap.size ≤ gb217)); clear HB; have HB := n0_; have BK217 := n1_; have GW217 := n2_; have GE217 := n3_; clear n0_ n1_ n2_ n3_; clear hb hbox hg; have hcz3_0 : w2.cell? ⟨gb217, 0, none⟩ = some (.string a0_0) := (blk_cell BK217.out 0).trans rfl; have hcz3_1 : w2.cell? ⟨gb217, 1, none⟩ = some (.int .i64 a0_1) := (blk_cell BK217.out 1).trans rfl; have hfz3_0 := blk_frozen BK217.out 0; have hfz3_1 := blk_frozen BK217.out 1))
 go_ret
 exact ⟨by first | rfl | (simp [errW_none, errW_some] <;> rfl) | (simp [*, errW_none, errW_some] <;> rfl), by repeat (first | (with_reducible first | exact HB.out | apply below_alloc | apply pw_below_drewN | apply below_drew1 | refine below_set ?_ GE217.out) | exact HB.out)⟩
end Go.Proofs.YtobidkjmgkmaoaaDoor.Fn
end
section
namespace Go.Proofs.YtobidkjmgkmaoaaDoor.Fn
open Go.RowKit Go.Proofs.YtobidkjmgkmaoaaDoorW.PrintWords Go.Proofs.YtobidkjmgkmaoaaDoorW.PrintLast Go.Proofs.YtobidkjmgkmaoaaDoorW.PrintMore
attribute [local go_sem] max2_int min2_int max_two min_two
set_option linter.unusedVariables false
set_option linter.unusedSimpArgs false
mutual
def platenref04_Compare.j0 : Nat → Bool → ByteArray → Int → ByteArray → Int → Option (Int)
 | 0, _, _, _, _, _ => none
 | k + 1, x17, x220000, x220001, x221000, x221001 => if x17 = true then (some 0) else (if x220000.toList = ([] : List UInt8) then (some (-1)) else (if x221000.toList = ([] : List UInt8) then (some 1) else ((platenref04_low.f x220000 x220001).bind fun t221 => (if x221001 > x220001 then (platenref04_Compare.j1 k x221001 t221 x220000 x220001 x221000 x221001) else (platenref04_Compare.j1 k x220001 t221 x220000 x220001 x221000 x221001)))))
def platenref04_Compare.j1 : Nat → Int → Int → ByteArray → Int → ByteArray → Int → Option (Int)
 | 0, _, _, _, _, _, _ => none
 | k + 1, x5, x6, x220000, x220001, x221000, x221001 => (platenref04_low.f x221000 x221001).bind fun t222 => (if t222 < x6 then ((platenref04_low.f x221000 x221001).bind fun t223 => (platenref04_Compare.j2 k x5 t223 x220000 x220001 x221000 x221001)) else (platenref04_Compare.j2 k x5 x6 x220000 x220001 x221000 x221001))
def platenref04_Compare.j2 : Nat → Int → Int → ByteArray → Int → ByteArray → Int → Option (Int)
 | 0, _, _, _, _, _, _ => none
 | k + 1, x5, x6, x220000, x220001, x221000, x221001 => platenref04_Compare.l0 k x6 x5 x220000 x220001 x221000 x221001
def platenref04_Compare.l0 : Nat → Int → Int → ByteArray → Int → ByteArray → Int → Option (Int)
 | 0, _, _, _, _, _, _ => none
 | k + 1, x6, x7, x220000, x220001, x221000, x221001 => if x7 ≥ x6 then ((platenref04_digit.f x220000 x220001 x7).bind fun t224 => ((platenref04_digit.f x221000 x221001 x7).bind fun t225 => (if t224 < t225 then (some (-1)) else (if t224 > t225 then (some 1) else (platenref04_Compare.l0 k x6 (wrap64 (x7 - 1)) x220000 x220001 x221000 x221001))))) else (some 0)
end
def platenref04_Compare.f (k : Nat) (a0_0 : ByteArray) (a0_1 : Int) (a1_0 : ByteArray) (a1_1 : Int) : Option (Int) := if a0_0.toList = ([] : List UInt8) then (platenref04_Compare.j0 k (a1_0.toList == ([] : List UInt8)) a0_0 a0_1 a1_0 a1_1) else (platenref04_Compare.j0 k false a0_0 a0_1 a1_0 a1_1)
def platenref04_Compare.T15 : Bool × List (List Nat × List Nat) := (true, [([], []), ([], []), ([0, 1], [0, 1]), ([], []), ([], []), ([3, 4, 2], [3, 4]), ([2, 5, 0, 1, 2], [2]), ([5, 6, 0, 1, 2, 3, 4, 5, 6], [5])])
def platenref04_Compare.B15 : List Nat := [0, 0, 3, 0, 0, 31, 63, 127]
theorem platenref04_Compare.tab15 : rtab .any (opsOf Tryd.f38 15) = platenref04_Compare.T15 := by kernel_rfl
theorem platenref04_Compare.bits15 : waitsOk platenref04_Compare.T15.2 platenref04_Compare.B15 = true := by kernel_rfl
set_option maxHeartbeats 8000000 in
set_option maxRecDepth 100000 in
theorem platenref04_Compare.calls (k : Nat) (a0_0 : ByteArray) (a0_1 : Int) (a1_0 : ByteArray) (a1_1 : Int) (r : Int) (w : World) (h : platenref04_Compare.f k a0_0 a0_1 a1_0 a1_1 = some r) :
  Calls Tryd.prog 38 #[.agg #[.string a0_0, .int .i64 a0_1], .agg #[.string a1_0, .int .i64 a1_1]] w fun e w' => e = .returned (.int .i64 r) ∧ Below w.heap.size w w' := by
 have hu23 := Tryd.underlying23
 have HB := Aside0.mk (Below.refl w.heap.size w)
 have H : (if a0_0.toList = ([] : List UInt8) then (platenref04_Compare.j0 k (a1_0.toList == ([] : List UInt8)) a0_0 a0_1 a1_0 a1_1) else (platenref04_Compare.j0 k false a0_0 a0_1 a1_0 a1_1)) = some r := h
 clear h
 have HC3 := Aside0.mk H
 clear H
 go_enter Tryd.func38, Tryd.ntmps38
 go_upto_region 1 with (first | ((with_reducible refine gate_dst (N := 2) rfl ?_); refine box_event ?hg (N := 2) ?hd (cs := #[.string a0_0, .int .i64 a0_1]) (t := 23) ?hr ?_; (case hd => rfl); (case hg => rfl); (case hr => first | (go_simp; done) | (go_simp; rfl)); intro gb219 hg w4 hbox hb; have n0_ := Aside0.mk (below_step (by repeat (first | (with_reducible first | exact HB.out | apply below_alloc | apply pw_below_drewN | apply below_drew1) | exact HB.out)) hb); have n1_ := Aside0.mk (hbox); have n2_ := Aside0.mk ((by rw [hg]; exact (below_size (by repeat (first | (with_reducible first | exact HB.out | apply below_alloc | apply pw_below_drewN | apply below_drew1) | exact HB.out))) : w.heap.size ≤ gb219)); have n3_ := Aside0.mk ((by rw [hg]; exact (below_size (by repeat (first | (with_reducible first | exact HB.out | apply below_alloc | apply pw_below_drewN | apply below_drew1) | exact HB.out))) : w.heap.size ≤ gb219)); clear HB; have HB := n0_; have BK219 := n1_; have GW219 := n2_; have GE219 := n3_; clear n0_ n1_ n2_ n3_; clear hb hbox hg) | ((with_reducible refine gate_dst (N := 3) rfl ?_); refine box_event ?hg (N := 3) ?hd (cs := #[.string a1_0, .int .i64 a1_1]) (t := 23) ?hr ?_; (case hd => rfl); (case hg => rfl); (case hr => first | (go_simp; done) | (go_simp; rfl)); intro gb220 hg w5 hbox hb; have n0_ := Aside0.mk (blk_below (g := gb219) (o := .cells #[.string a0_0, .int .i64 a0_1] 23 (0, 0)) (by (with_reducible repeat (first | refine blk_drewN ?_ _ | refine blk_drew ?_ | refine blk_alloc ?_ _)); exact BK219.out) hb); have n1_ := Aside0.mk (below_step (by repeat (first | (with_reducible first | exact HB.out | apply below_alloc | apply pw_below_drewN | apply below_drew1 | refine below_set ?_ GE219.out) | exact HB.out)) hb); have n2_ := Aside0.mk (hbox); have n3_ := Aside0.mk ((by rw [hg]; exact (below_size (by repeat (first | (with_reducible first | exact HB.out | apply below_alloc | apply pw_below_drewN | apply below_drew1 | refine below_set ?_ GE219.out) | exact HB.out))) : w.heap.size ≤ gb220)); have n4_ := Aside0.mk ((by rw [hg]; exact (below_size (by repeat (first | (with_reducible first | exact HB.out | apply below_alloc | apply pw_below_drewN | apply below_drew1 | refine below_set ?_ GE219.out) | exact HB.out))) : w.heap.size ≤ gb220)); have n5_ := Aside0.mk ((by rw [hg]; exact Nat.ne_of_lt (blk_lt (g := gb219) (o := .cells #[.string a0_0, .int .i64 a0_1] 23 (0, 0)) (by (with_reducible repeat (first | refine blk_drewN ?_ _ | refine blk_drew ?_ | refine blk_alloc ?_ _)); exact BK219.out)) : gb219 ≠ gb220)); have n6_ := Aside0.mk ((by rw [hg]; exact Nat.ne_of_gt (blk_lt (g := gb219) (o := .cells #[.string a0_0, .int .i64 a0_1] 23 (0, 0)) (by (with_reducible repeat (first | refine blk_drewN ?_ _ | refine blk_drew ?_ | refine blk_alloc ?_ _)); exact BK219.out)) : gb220 ≠ gb219)); clear BK219; clear HB; have BK219 := n0_; have HB := n1_; have BK220 := n2_; have GW220 := n3_; have GE220 := n4_; have NB219_220 := n5_; have NB220_219 := n6_; clear n0_ n1_ n2_ n3_ n4_ n5_ n6_; clear hb hbox hg))
 (try simp only [Act.put, List.setIfInBounds_toArray, List.set_cons_zero, List.set_cons_succ])
 go_cut [17] (fun v17 wc => ∃ (kq : Nat) (x17_2 : Bool), v17 = .bool x17_2 ∧ Aside0 (platenref04_Compare.j0 kq x17_2 a0_0 a0_1 a1_0 a1_1 = some r) ∧ Aside0 (kq ≤ k) ∧ Aside0 (wc.heap[gb219]? = some (.cells #[.string a0_0, .int .i64 a0_1] 23 (0, 0))) ∧ Aside0 (wc.heap[gb220]? = some (.cells #[.string a1_0, .int .i64 a1_1] 23 (0, 0))) ∧ Aside0 (Below w.heap.size w wc))
 case first =>
  have H := HC3.out
  clear HC3
  by_cases c6 : a0_0.toList = ([] : List UInt8)
  ·rw [if_pos c6] at H
   have c6b0 : (a0_0.toList == ([] : List UInt8)) = true := beq_iff_eq.mpr c6
   have c6b1 : (a0_0.toList != ([] : List UInt8)) = false := bne_eq_false_iff_eq.mpr c6
   clear c6
   (first | rw [c6b0] | (simp only [i64_w, i32_w]; rw [c6b0]) | skip)
   have H' := Aside0.mk H
   clear H
   have hnb7 := NB219_220.out
   have hnc7 := NB220_219.out
   have hcz8_0 : w5.cell? ⟨gb219, 0, none⟩ = some (.string a0_0) := (blk_cell BK219.out 0).trans rfl
   have hcz8_1 : w5.cell? ⟨gb219, 1, none⟩ = some (.int .i64 a0_1) := (blk_cell BK219.out 1).trans rfl
   have hfz8_0 := blk_frozen BK219.out 0
   have hfz8_1 := blk_frozen BK219.out 1
   have hcz9_0 : w5.cell? ⟨gb220, 0, none⟩ = some (.string a1_0) := (blk_cell BK220.out 0).trans rfl
   have hcz9_1 : w5.cell? ⟨gb220, 1, none⟩ = some (.int .i64 a1_1) := (blk_cell BK220.out 1).trans rfl
   have hfz9_0 := blk_frozen BK220.out 0
   have hfz9_1 := blk_frozen BK220.out 1
   go_wp2
   go_meet
   case rel => exact ⟨_, ((a1_0.toList == ([] : List UInt8))), (by first | rfl | (simp; done) | (simp [*]; done)), H', ⟨by first | omega | exact Nat.le_refl _⟩, ⟨by (with_reducible repeat (first | refine blk_drewN ?_ _ | refine blk_drew ?_ | refine blk_alloc ?_ _)); exact BK219.out⟩, ⟨by (with_reducible repeat (first | refine blk_drewN ?_ _ | refine blk_drew ?_ | refine blk_alloc ?_ _)); exact BK220.out⟩, ⟨by repeat (first | (with_reducible first | exact HB.out | apply below_alloc | apply pw_below_drewN | apply below_drew1 | refine below_set ?_ GE219.out | refine below_set ?_ GE220.out) | exact HB.out)⟩⟩
  ·rw [if_neg c6] at H
   have c6b0 : (a0_0.toList == ([] : List UInt8)) = false := beq_eq_false_iff_ne.mpr c6
   have c6b1 : (a0_0.toList != ([] : List UInt8)) = true := bne_iff_ne.mpr c6
   (first | rw [c6b0] | (simp only [i64_w, i32_w]; rw [c6b0]) | skip)
   have H' := Aside0.mk H
   clear H
   have hnb10 := NB219_220.out
   have hnc10 := NB220_219.out
   have hcz11_0 : w5.cell? ⟨gb219, 0, none⟩ = some (.string a0_0) := (blk_cell BK219.out 0).trans rfl
   have hcz11_1 : w5.cell? ⟨gb219, 1, none⟩ = some (.int .i64 a0_1) := (blk_cell BK219.out 1).trans rfl
   have hfz11_0 := blk_frozen BK219.out 0
   have hfz11_1 := blk_frozen BK219.out 1
   go_wp2
   go_meet
   case rel => exact ⟨_, (false), (by first | rfl | (simp; done) | (simp [*]; done)), H', ⟨by first | omega | exact Nat.le_refl _⟩, ⟨by (with_reducible repeat (first | refine blk_drewN ?_ _ | refine blk_drew ?_ | refine blk_alloc ?_ _)); exact BK219.out⟩, ⟨by (with_reducible repeat (first | refine blk_drewN ?_ _ | refine blk_drew ?_ | refine blk_alloc ?_ _)); exact BK220.out⟩, ⟨by repeat (first | (with_reducible first | exact HB.out | apply below_alloc | apply pw_below_drewN | apply below_drew1 | refine below_set ?_ GE219.out | refine below_set ?_ GE220.out) | exact HB.out)⟩⟩
 case rest =>
  clear HC3
  try clear c6
  try clear c6b0
  try clear c6b1
  try clear hcz11_0
  try clear hcz11_1
  try clear hcz8_0
  try clear hcz8_1
  try clear hcz9_0
  try clear hcz9_1
  try clear hfz11_0
  try clear hfz11_1
  try clear hfz8_0
  try clear hfz8_1
  try clear hfz9_0
  try clear hfz9_1
  obtain ⟨kq, x17_2, rfl, HA, HJ2, BK219, BK220, HB⟩ := hcut
  cases kq with
  | zero => exact absurd HA.out (by simp [platenref04_Compare.j0])
  | succ kj2 =>
   have H := HA.out
   clear HA
   simp only [platenref04_Compare.j0] at H
   by_cases c12 : x17_2 = true
   ·subst c12
    have H1 : (some 0) = some r := by rw [if_pos rfl] at H; exact H
    clear H
    have H := H1
    clear H1
    obtain rfl := Option.some.inj H
    go_wp2
    go_ret
    exact ⟨by first | rfl | (simp [errW_none, errW_some] <;> rfl) | (simp [*, errW_none, errW_some] <;> rfl), by repeat (first | (with_reducible first | exact HB.out | apply below_alloc | apply pw_below_drewN | apply below_drew1 | refine below_set ?_ GE219.out | refine below_set ?_ GE220.out) | exact HB.out)⟩
   ·replace c12 := Bool.eq_false_iff.mpr c12
    subst c12
    have H1 : (if a0_0.toList = ([] : List UInt8) then (some (-1)) else (if a1_0.toList = ([] : List UInt8) then (some 1) else ((platenref04_low.f a0_0 a0_1).bind fun t221 => (if a1_1 > a0_1 then (platenref04_Compare.j1 kj2 a1_1 t221 a0_0 a0_1 a1_0 a1_1) else (platenref04_Compare.j1 kj2 a0_1 t221 a0_0 a0_1 a1_0 a1_1))))) = some r := by rw [if_neg (show ¬ (false = true) by decide)] at H; exact H
    clear H
    have H := H1
    clear H1
    by_cases c13 : a0_0.toList = ([] : List UInt8)
    ·rw [if_pos c13] at H
     have c13b0 : (a0_0.toList == ([] : List UInt8)) = true := beq_iff_eq.mpr c13
     have c13b1 : (a0_0.toList != ([] : List UInt8)) = false := bne_eq_false_iff_eq.mpr c13
     clear c13
     obtain rfl := Option.some.inj H
     have hnb14 := NB219_220.out
     have hnc14 := NB220_219.out
     have hcz15_0 : wc.cell? ⟨gb219, 0, none⟩ = some (.string a0_0) := (blk_cell BK219.out 0).trans rfl
     have hcz15_1 : wc.cell? ⟨gb219, 1, none⟩ = some (.int .i64 a0_1) := (blk_cell BK219.out 1).trans rfl
     have hfz15_0 := blk_frozen BK219.out 0
     have hfz15_1 := blk_frozen BK219.out 1
     go_wp2
     go_ret
     exact ⟨by first | rfl | (simp [errW_none, errW_some] <;> rfl) | (simp [*, errW_none, errW_some] <;> rfl), by repeat (first | (with_reducible first | exact HB.out | apply below_alloc | apply pw_below_drewN | apply below_drew1 | refine below_set ?_ GE219.out | refine below_set ?_ GE220.out) | exact HB.out)⟩
    ·rw [if_neg c13] at H
     have c13b0 : (a0_0.toList == ([] : List UInt8)) = false := beq_eq_false_iff_ne.mpr c13
     have c13b1 : (a0_0.toList != ([] : List UInt8)) = true := bne_iff_ne.mpr c13
     by_cases c16 : a1_0.toList = ([] : List UInt8)
     ·rw [if_pos c16] at H
      have c16b0 : (a1_0.toList == ([] : List UInt8)) = true := beq_iff_eq.mpr c16
      have c16b1 : (a1_0.toList != ([] : List UInt8)) = false := bne_eq_false_iff_eq.mpr c16
      clear c16
      obtain rfl := Option.some.inj H
      have hnb17 := NB219_220.out
      have hnc17 := NB220_219.out
      have hcz18_0 : wc.cell? ⟨gb219, 0, none⟩ = some (.string a0_0) := (blk_cell BK219.out 0).trans rfl
      have hcz18_1 : wc.cell? ⟨gb219, 1, none⟩ = some (.int .i64 a0_1) := (blk_cell BK219.out 1).trans rfl
      have hfz18_0 := blk_frozen BK219.out 0
      have hfz18_1 := blk_frozen BK219.out 1
      have hcz19_0 : wc.cell? ⟨gb220, 0, none⟩ = some (.string a1_0) := (blk_cell BK220.out 0).trans rfl
      have hcz19_1 : wc.cell? ⟨gb220, 1, none⟩ = some (.int .i64 a1_1) := (blk_cell BK220.out 1).trans rfl
      have hfz19_0 := blk_frozen BK220.out 0
      have hfz19_1 := blk_frozen BK220.out 1
      go_wp2
      go_ret
      exact ⟨by first | rfl | (simp [errW_none, errW_some] <;> rfl) | (simp [*, errW_none, errW_some] <;> rfl), by repeat (first | (with_reducible first | exact HB.out | apply below_alloc | apply pw_below_drewN | apply below_drew1 | refine below_set ?_ GE219.out | refine below_set ?_ GE220.out) | exact HB.out)⟩
     ·rw [if_neg c16] at H
      have c16b0 : (a1_0.toList == ([] : List UInt8)) = false := beq_eq_false_iff_ne.mpr c16
      have c16b1 : (a1_0.toList != ([] : List UInt8)) = true := bne_iff_ne.mpr c16
      replace H := Option.bind_eq_some_iff.mp H
      obtain ⟨t221, A200, H⟩ := H
      replace H : (if a1_1 > a0_1 then (platenref04_Compare.j1 kj2 a1_1 t221 a0_0 a0_1 a1_0 a1_1) else (platenref04_Compare.j1 kj2 a0_1 t221 a0_0 a0_1 a1_0 a1_1)) = some r := H
      have A20 := Aside0.mk A200
      clear A200
      have HC21 := Aside0.mk H
      clear H
      have hnb22 := NB219_220.out
      have hnc22 := NB220_219.out
      have hcz23_0 : wc.cell? ⟨gb219, 0, none⟩ = some (.string a0_0) := (blk_cell BK219.out 0).trans rfl
      have hcz23_1 : wc.cell? ⟨gb219, 1, none⟩ = some (.int .i64 a0_1) := (blk_cell BK219.out 1).trans rfl
      have hfz23_0 := blk_frozen BK219.out 0
      have hfz23_1 := blk_frozen BK219.out 1
      have hcz24_0 : wc.cell? ⟨gb220, 0, none⟩ = some (.string a1_0) := (blk_cell BK220.out 0).trans rfl
      have hcz24_1 : wc.cell? ⟨gb220, 1, none⟩ = some (.int .i64 a1_1) := (blk_cell BK220.out 1).trans rfl
      have hfz24_0 := blk_frozen BK220.out 0
      have hfz24_1 := blk_frozen BK220.out 1
      try go_wp2
      have n0_ := Aside0.mk (blk_drew BK219.out)
      have n1_ := Aside0.mk (blk_drew BK220.out)
      have n2_ := Aside0.mk (below_drew1 HB.out)
      clear BK219
      clear BK220
      clear HB
      have BK219 := n0_
      have BK220 := n1_
      have HB := n2_
      clear n0_ n1_ n2_
      refine start_ (n := 6) (S := fun w' => w'.cell? ⟨gb219, 0, none⟩ = some (.string a0_0) ∧ w'.cell? ⟨gb219, 1, none⟩ = some (.int .i64 a0_1)) (ds := []) #[false, false, false, false, false, false] (by kernel_rfl) rfl rfl ⟨(blk_cell BK219.out 0).trans rfl, (blk_cell BK219.out 1).trans rfl⟩ (fun hHeld => ?_)
      generalize wc.drew = w25 at BK219 BK220 HB hHeld ⊢
      refine pure_ (i := 0) (N := some 24) (v := ?_) (a' := ?_) #[true, false, false, false, false, false] rfl rfl (by kernel_rfl) (fun _ _ _ h => h) (Or.inl ⟨by rfl, ?_⟩) ?_ ?_
      rotate_left
      ·intro w'
       go_simp
       with_reducible rfl
      rotate_left
      ·simp only [Act.put, List.setIfInBounds_toArray, List.set_cons_zero, List.set_cons_succ, i64_w, i32_w]
       rfl
      refine take_ (i := 1) (N := some 25) (v := ?_) (a' := ?_) #[true, true, false, false, false, false] rfl rfl (by kernel_rfl) (fun _ _ _ h => h) (Or.inl ⟨by rfl, ?_⟩) hHeld ?_ ?_
      rotate_left
      ·rintro w' ⟨s0, s1⟩
       go_simp
       with_reducible rfl
      rotate_left
      ·simp only [Act.put, List.setIfInBounds_toArray, List.set_cons_zero, List.set_cons_succ, i64_w, i32_w]
       rfl
      refine take_ (i := 2) (N := some 26) (v := ?_) (a' := ?_) #[true, true, true, false, false, false] rfl rfl (by kernel_rfl) (fun _ _ _ h => h) (Or.inl ⟨by rfl, ?_⟩) hHeld ?_ ?_
      rotate_left
      ·rintro w' ⟨s0, s1⟩
       go_simp
       with_reducible rfl
      rotate_left
      ·simp only [Act.put, List.setIfInBounds_toArray, List.set_cons_zero, List.set_cons_succ, i64_w, i32_w]
       rfl
      refine one_ (i := 3) (N := some 27) #[true, true, true, true, false, false] rfl rfl (by kernel_rfl) (by decide) (fun K hK => ?_)
      refine goes_ Tryd.func44 (by kernel_rfl) rfl #[.agg #[.string a0_0, .int .i64 a0_1]] (by rfl) rfl rfl (by (try simp only [List.map_toArray, List.map_cons, List.map_nil]); first | done | rfl | (simp only [List.length_drop, List.length_take]; rfl)) ?_
      with_reducible refine (platenref04_low.calls a0_0 a0_1 t221 _ A20.out).mono ?_
      rintro e w26 ⟨rfl, hb⟩
      refine ⟨_, rfl, ?_⟩
      have n0_ := Aside0.mk (blk_below (g := gb219) (o := .cells #[.string a0_0, .int .i64 a0_1] 23 (0, 0)) (by (with_reducible repeat (first | refine blk_drewN ?_ _ | refine blk_drew ?_ | refine blk_alloc ?_ _)); exact BK219.out) hb)
      have n1_ := Aside0.mk (blk_below (g := gb220) (o := .cells #[.string a1_0, .int .i64 a1_1] 23 (0, 0)) (by (with_reducible repeat (first | refine blk_drewN ?_ _ | refine blk_drew ?_ | refine blk_alloc ?_ _)); exact BK220.out) hb)
      have n2_ := Aside0.mk (below_step (by repeat (first | (with_reducible first | exact HB.out | apply below_alloc | apply pw_below_drewN | apply below_drew1 | refine below_set ?_ GE219.out | refine below_set ?_ GE220.out) | exact HB.out)) hb)
      clear BK219
      clear BK220
      clear HB
      have BK219 := n0_
      have BK220 := n1_
      have HB := n2_
      clear n0_ n1_ n2_
      (try clear hb)
      (try clear hb2)
      (try clear hk)
      (try clear hi)
      refine hK.out _ _ ⟨(blk_cell BK219.out 0).trans rfl, (blk_cell BK219.out 1).trans rfl⟩ (fun hHeld => ?_)
      clear hK K
      refine norm_ (a' := ?_) ?_ ?_
      rotate_left
      ·show Act.put _ (some 27) _ = _
       simp only [Act.put, List.setIfInBounds_toArray, List.set_cons_zero, List.set_cons_succ, i64_w, i32_w]
       rfl
      refine pure_ (i := 4) (N := some 5) (v := ?_) (a' := ?_) #[true, true, true, true, true, false] rfl rfl (by kernel_rfl) (fun _ _ _ h => h) (Or.inl ⟨by rfl, ?_⟩) ?_ ?_
      rotate_left
      ·intro w'
       go_simp
       with_reducible rfl
      rotate_left
      ·simp only [Act.put, List.setIfInBounds_toArray, List.set_cons_zero, List.set_cons_succ, i64_w, i32_w]
       rfl
      refine pure_ (i := 5) (N := some 6) (v := ?_) (a' := ?_) #[true, true, true, true, true, true] rfl rfl (by kernel_rfl) (fun _ _ _ h => h) (Or.inl ⟨by rfl, ?_⟩) ?_ ?_
      rotate_left
      ·intro w'
       go_simp
       with_reducible rfl
      rotate_left
      ·simp only [Act.put, List.setIfInBounds_toArray, List.set_cons_zero, List.set_cons_succ, i64_w, i32_w]
       rfl
      refine done_ (by kernel_rfl) ?_
      have hcz27_0 : w26.cell? ⟨gb220, 0, none⟩ = some (.string a1_0) := (blk_cell BK220.out 0).trans rfl
      have hcz27_1 : w26.cell? ⟨gb220, 1, none⟩ = some (.int .i64 a1_1) := (blk_cell BK220.out 1).trans rfl
      have hfz27_0 := blk_frozen BK220.out 0
      have hfz27_1 := blk_frozen BK220.out 1
      go_upto_if 31 with (fail)
      go_cut [5] (fun v5 wc => ∃ (kq : Nat) (x5_20 : Int), v5 = .int .i64 x5_20 ∧ Aside0 (platenref04_Compare.j1 kq x5_20 t221 a0_0 a0_1 a1_0 a1_1 = some r) ∧ Aside0 (kq ≤ kj2) ∧ Aside0 (wc.heap[gb219]? = some (.cells #[.string a0_0, .int .i64 a0_1] 23 (0, 0))) ∧ Aside0 (wc.heap[gb220]? = some (.cells #[.string a1_0, .int .i64 a1_1] 23 (0, 0))) ∧ Aside0 (Below w.heap.size w wc))
      case first =>
       have H := HC21.out
       clear HC21
       by_cases c28 : a1_1 > a0_1
       ·rw [if_pos c28] at H
        have c28b0 : decide (a0_1 < a1_1) = true := decide_eq_true c28
        clear c28
        (first | rw [c28b0] | (simp only [i64_w, i32_w]; rw [c28b0]) | skip)
        have H' := Aside0.mk H
        clear H
        have hnb29 := NB220_219.out
        have hnc29 := NB219_220.out
        have hcz30_0 : w26.cell? ⟨gb220, 0, none⟩ = some (.string a1_0) := (blk_cell BK220.out 0).trans rfl
        have hcz30_1 : w26.cell? ⟨gb220, 1, none⟩ = some (.int .i64 a1_1) := (blk_cell BK220.out 1).trans rfl
        have hfz30_0 := blk_frozen BK220.out 0
        have hfz30_1 := blk_frozen BK220.out 1
        go_wp2
        go_meet
        case rel => exact ⟨_, (a1_1), (by first | rfl | (simp; done) | (simp [*]; done)), H', ⟨by have := HJ2.out; first | omega | exact Nat.le_refl _⟩, ⟨by (with_reducible repeat (first | refine blk_drewN ?_ _ | refine blk_drew ?_ | refine blk_alloc ?_ _)); exact BK219.out⟩, ⟨by (with_reducible repeat (first | refine blk_drewN ?_ _ | refine blk_drew ?_ | refine blk_alloc ?_ _)); exact BK220.out⟩, ⟨by repeat (first | (with_reducible first | exact HB.out | apply below_alloc | apply pw_below_drewN | apply below_drew1 | refine below_set ?_ GE219.out | refine below_set ?_ GE220.out) | exact HB.out)⟩⟩
       ·rw [if_neg c28] at H
        have c28b0 : decide (a0_1 < a1_1) = false := decide_eq_false c28
        clear c28
        (first | rw [c28b0] | (simp only [i64_w, i32_w]; rw [c28b0]) | skip)
        have H' := Aside0.mk H
        clear H
        go_wp2
        go_meet
        case rel => exact ⟨_, (a0_1), (by first | rfl | (simp; done) | (simp [*]; done)), H', ⟨by have := HJ2.out; first | omega | exact Nat.le_refl _⟩, ⟨by (with_reducible repeat (first | refine blk_drewN ?_ _ | refine blk_drew ?_ | refine blk_alloc ?_ _)); exact BK219.out⟩, ⟨by (with_reducible repeat (first | refine blk_drewN ?_ _ | refine blk_drew ?_ | refine blk_alloc ?_ _)); exact BK220.out⟩, ⟨by repeat (first | (with_reducible first | exact HB.out | apply below_alloc | apply pw_below_drewN | apply below_drew1 | refine below_set ?_ GE219.out | refine below_set ?_ GE220.out) | exact HB.out)⟩⟩
      case rest =>
       clear HC21
       try clear c6
       try clear c6b0
       try clear c6b1
       try clear c12
       try clear c13
       try clear c13b0
       try clear c13b1
       try clear c16
       try clear c16b0
       try clear c16b1
       try clear c28
       try clear c28b0
       try clear hcz11_0
       try clear hcz11_1
       try clear hcz15_0
       try clear hcz15_1
       try clear hcz18_0
       try clear hcz18_1
       try clear hcz19_0
       try clear hcz19_1
       try clear hcz23_0
       try clear hcz23_1
       try clear hcz24_0
       try clear hcz24_1
       try clear hcz27_0
       try clear hcz27_1
       try clear hcz30_0
       try clear hcz30_1
       try clear hcz8_0
       try clear hcz8_1
       try clear hcz9_0
       try clear hcz9_1
       try clear hfz11_0
       try clear hfz11_1
       try clear hfz15_0
       try clear hfz15_1
       try clear hfz18_0
       try clear hfz18_1
       try clear hfz19_0
       try clear hfz19_1
       try clear hfz23_0
       try clear hfz23_1
       try clear hfz24_0
       try clear hfz24_1
       try clear hfz27_0
       try clear hfz27_1
       try clear hfz30_0
       try clear hfz30_1
       try clear hfz8_0
       try clear hfz8_1
       try clear hfz9_0
       try clear hfz9_1
       obtain ⟨kq, x5_20, rfl, HA, HJ20, BK219, BK220, HB⟩ := hcut
       cases kq with
       | zero => exact absurd HA.out (by simp [platenref04_Compare.j1])
       | succ kj20 =>
        have H := HA.out
        clear HA
        simp only [platenref04_Compare.j1] at H
        replace H := Option.bind_eq_some_iff.mp H
        obtain ⟨t222, A310, H⟩ := H
        replace H : (if t222 < t221 then ((platenref04_low.f a1_0 a1_1).bind fun t223 => (platenref04_Compare.j2 kj20 x5_20 t223 a0_0 a0_1 a1_0 a1_1)) else (platenref04_Compare.j2 kj20 x5_20 t221 a0_0 a0_1 a1_0 a1_1)) = some r := H
        have A31 := Aside0.mk A310
        clear A310
        have HC32 := Aside0.mk H
        clear H
        have hnb33 := NB220_219.out
        have hnc33 := NB219_220.out
        have hcz34_0 : wc.cell? ⟨gb220, 0, none⟩ = some (.string a1_0) := (blk_cell BK220.out 0).trans rfl
        have hcz34_1 : wc.cell? ⟨gb220, 1, none⟩ = some (.int .i64 a1_1) := (blk_cell BK220.out 1).trans rfl
        have hfz34_0 := blk_frozen BK220.out 0
        have hfz34_1 := blk_frozen BK220.out 1
        go_upto_if 37 with (first | ((with_reducible refine gate_callee (f := 44) rfl ?_); refine goesL_ (some 35) rfl rfl Tryd.func44 (by kernel_rfl) rfl #[.agg #[.string a1_0, .int .i64 a1_1]] rfl (by (try simp only [List.map_toArray, List.map_cons, List.map_nil]); first | done | rfl | (simp only [List.length_drop, List.length_take]; rfl)) ?_; (with_reducible refine (platenref04_low.calls a1_0 a1_1 t222 _ A31.out).mono ?_); rintro e w35 ⟨rfl, hb⟩; refine ⟨_, rfl, ?_⟩; have n0_ := Aside0.mk (blk_below (g := gb219) (o := .cells #[.string a0_0, .int .i64 a0_1] 23 (0, 0)) (by (with_reducible repeat (first | refine blk_drewN ?_ _ | refine blk_drew ?_ | refine blk_alloc ?_ _)); exact BK219.out) hb); have n1_ := Aside0.mk (blk_below (g := gb220) (o := .cells #[.string a1_0, .int .i64 a1_1] 23 (0, 0)) (by (with_reducible repeat (first | refine blk_drewN ?_ _ | refine blk_drew ?_ | refine blk_alloc ?_ _)); exact BK220.out) hb); have n2_ := Aside0.mk (below_step (by repeat (first | (with_reducible first | exact HB.out | apply below_alloc | apply pw_below_drewN | apply below_drew1 | refine below_set ?_ GE219.out | refine below_set ?_ GE220.out) | exact HB.out)) hb); clear BK219; clear BK220; clear HB; have BK219 := n0_; have BK220 := n1_; have HB := n2_; clear n0_ n1_ n2_; (try clear hb); (try clear hb2); (try clear hk); (try clear hi)))
        (try simp only [Act.put, List.setIfInBounds_toArray, List.set_cons_zero, List.set_cons_succ])
        go_cut [6] (fun v6 wc => ∃ (kq : Nat) (x6_31 : Int), v6 = .int .i64 x6_31 ∧ Aside0 (platenref04_Compare.j2 kq x5_20 x6_31 a0_0 a0_1 a1_0 a1_1 = some r) ∧ Aside0 (kq ≤ kj20) ∧ Aside0 (wc.heap[gb219]? = some (.cells #[.string a0_0, .int .i64 a0_1] 23 (0, 0))) ∧ Aside0 (wc.heap[gb220]? = some (.cells #[.string a1_0, .int .i64 a1_1] 23 (0, 0))) ∧ Aside0 (Below w.heap.size w wc))
        case first =>
         have H := HC32.out
         clear HC32
         by_cases c36 : t222 < t221
         ·rw [if_pos c36] at H
          have c36b0 : decide (t222 < t221) = true := decide_eq_true c36
          clear c36
          (first | rw [c36b0] | (simp only [i64_w, i32_w]; rw [c36b0]) | skip)
          replace H := Option.bind_eq_some_iff.mp H
          obtain ⟨t223, A370, H⟩ := H
          replace H : (platenref04_Compare.j2 kj20 x5_20 t223 a0_0 a0_1 a1_0 a1_1) = some r := H
          have A37 := Aside0.mk A370
          clear A370
          have H' := Aside0.mk H
          clear H
          have hnb38 := NB220_219.out
          have hnc38 := NB219_220.out
          have hcz39_0 : w35.cell? ⟨gb220, 0, none⟩ = some (.string a1_0) := (blk_cell BK220.out 0).trans rfl
          have hcz39_1 : w35.cell? ⟨gb220, 1, none⟩ = some (.int .i64 a1_1) := (blk_cell BK220.out 1).trans rfl
          have hfz39_0 := blk_frozen BK220.out 0
          have hfz39_1 := blk_frozen BK220.out 1
          go_wp2_with (first | ((with_reducible refine gate_callee (f := 44) rfl ?_); refine goesL_ (some 39) rfl rfl Tryd.func44 (by kernel_rfl) rfl #[.agg #[.string a1_0, .int .i64 a1_1]] rfl (by (try simp only [List.map_toArray, List.map_cons, List.map_nil]); first | done | rfl | (simp only [List.length_drop, List.length_take]; rfl)) ?_; (with_reducible refine (platenref04_low.calls a1_0 a1_1 t223 _ A37.out).mono ?_); rintro e w40 ⟨rfl, hb⟩; refine ⟨_, rfl, ?_⟩; have n0_ := Aside0.mk (blk_below (g := gb219) (o := .cells #[.string a0_0, .int .i64 a0_1] 23 (0, 0)) (by (with_reducible repeat (first | refine blk_drewN ?_ _ | refine blk_drew ?_ | refine blk_alloc ?_ _)); exact BK219.out) hb); have n1_ := Aside0.mk (blk_below (g := gb220) (o := .cells #[.string a1_0, .int .i64 a1_1] 23 (0, 0)) (by (with_reducible repeat (first | refine blk_drewN ?_ _ | refine blk_drew ?_ | refine blk_alloc ?_ _)); exact BK220.out) hb); have n2_ := Aside0.mk (below_step (by repeat (first | (with_reducible first | exact HB.out | apply below_alloc | apply pw_below_drewN | apply below_drew1 | refine below_set ?_ GE219.out | refine below_set ?_ GE220.out) | exact HB.out)) hb); clear BK219; clear BK220; clear HB; have BK219 := n0_; have BK220 := n1_; have HB := n2_; clear n0_ n1_ n2_; (try clear hb); (try clear hb2); (try clear hk); (try clear hi)))
          go_meet
          case rel => exact ⟨_, (t223), (by first | rfl | (simp; done) | (simp [*]; done)), H', ⟨by have := HJ2.out; have := HJ20.out; first | omega | exact Nat.le_refl _⟩, ⟨by (with_reducible repeat (first | refine blk_drewN ?_ _ | refine blk_drew ?_ | refine blk_alloc ?_ _)); exact BK219.out⟩, ⟨by (with_reducible repeat (first | refine blk_drewN ?_ _ | refine blk_drew ?_ | refine blk_alloc ?_ _)); exact BK220.out⟩, ⟨by repeat (first | (with_reducible first | exact HB.out | apply below_alloc | apply pw_below_drewN | apply below_drew1 | refine below_set ?_ GE219.out | refine below_set ?_ GE220.out) | exact HB.out)⟩⟩
         ·rw [if_neg c36] at H
          have c36b0 : decide (t222 < t221) = false := decide_eq_false c36
          clear c36
          (first | rw [c36b0] | (simp only [i64_w, i32_w]; rw [c36b0]) | skip)
          have H' := Aside0.mk H
          clear H
          go_wp2
          go_meet
          case rel => exact ⟨_, (t221), (by first | rfl | (simp; done) | (simp [*]; done)), H', ⟨by have := HJ2.out; have := HJ20.out; first | omega | exact Nat.le_refl _⟩, ⟨by (with_reducible repeat (first | refine blk_drewN ?_ _ | refine blk_drew ?_ | refine blk_alloc ?_ _)); exact BK219.out⟩, ⟨by (with_reducible repeat (first | refine blk_drewN ?_ _ | refine blk_drew ?_ | refine blk_alloc ?_ _)); exact BK220.out⟩, ⟨by repeat (first | (with_reducible first | exact HB.out | apply below_alloc | apply pw_below_drewN | apply below_drew1 | refine below_set ?_ GE219.out | refine below_set ?_ GE220.out) | exact HB.out)⟩⟩
        case rest =>
         clear HC32
         try clear c6
         try clear c6b0
         try clear c6b1
         try clear c12
         try clear c13
         try clear c13b0
         try clear c13b1
         try clear c16
         try clear c16b0
         try clear c16b1
         try clear c28
         try clear c28b0
         try clear c36
         try clear c36b0
         try clear hcz11_0
         try clear hcz11_1
         try clear hcz15_0
         try clear hcz15_1
         try clear hcz18_0
         try clear hcz18_1
         try clear hcz19_0
         try clear hcz19_1
         try clear hcz23_0
         try clear hcz23_1
         try clear hcz24_0
         try clear hcz24_1
         try clear hcz27_0
         try clear hcz27_1
         try clear hcz30_0
         try clear hcz30_1
         try clear hcz34_0
         try clear hcz34_1
         try clear hcz39_0
         try clear hcz39_1
         try clear hcz8_0
         try clear hcz8_1
         try clear hcz9_0
         try clear hcz9_1
         try clear hfz11_0
         try clear hfz11_1
         try clear hfz15_0
         try clear hfz15_1
         try clear hfz18_0
         try clear hfz18_1
         try clear hfz19_0
         try clear hfz19_1
         try clear hfz23_0
         try clear hfz23_1
         try clear hfz24_0
         try clear hfz24_1
         try clear hfz27_0
         try clear hfz27_1
         try clear hfz30_0
         try clear hfz30_1
         try clear hfz34_0
         try clear hfz34_1
         try clear hfz39_0
         try clear hfz39_1
         try clear hfz8_0
         try clear hfz8_1
         try clear hfz9_0
         try clear hfz9_1
         obtain ⟨kq, x6_31, rfl, HA, HJ31, BK219, BK220, HB⟩ := hcut
         cases kq with
         | zero => exact absurd HA.out (by simp [platenref04_Compare.j2])
         | succ kj31 =>
          have H := HA.out
          clear HA
          simp only [platenref04_Compare.j2] at H
          have H' := Aside0.mk H
          clear H
          go_wp2
          go_loopg [7] kj31 (fun kq v7 w' => ∃ (x7_4 : Int), v7 = .int .i64 x7_4 ∧ Aside0 (platenref04_Compare.l0 kq x6_31 x7_4 a0_0 a0_1 a1_0 a1_1 = some r) ∧ Aside0 (kq ≤ kj31) ∧ Aside0 (w'.heap[gb219]? = some (.cells #[.string a0_0, .int .i64 a0_1] 23 (0, 0))) ∧ Aside0 (w'.heap[gb220]? = some (.cells #[.string a1_0, .int .i64 a1_1] 23 (0, 0))) ∧ Aside0 (Below w.heap.size w w'))
          case atStart => exact ⟨(x5_20), (by first | rfl | (simp; done) | (simp [*]; done)), H', ⟨Nat.le_refl _⟩, ⟨by (with_reducible repeat (first | refine blk_drewN ?_ _ | refine blk_drew ?_ | refine blk_alloc ?_ _)); exact BK219.out⟩, ⟨by (with_reducible repeat (first | refine blk_drewN ?_ _ | refine blk_drew ?_ | refine blk_alloc ?_ _)); exact BK220.out⟩, ⟨by repeat (first | (with_reducible first | exact HB.out | apply below_alloc | apply pw_below_drewN | apply below_drew1 | refine below_set ?_ GE219.out | refine below_set ?_ GE220.out) | exact HB.out)⟩⟩
          case round =>
           clear H'
           try clear c6
           try clear c6b0
           try clear c6b1
           try clear c12
           try clear c13
           try clear c13b0
           try clear c13b1
           try clear c16
           try clear c16b0
           try clear c16b1
           try clear c28
           try clear c28b0
           try clear c36
           try clear c36b0
           try clear hcz11_0
           try clear hcz11_1
           try clear hcz15_0
           try clear hcz15_1
           try clear hcz18_0
           try clear hcz18_1
           try clear hcz19_0
           try clear hcz19_1
           try clear hcz23_0
           try clear hcz23_1
           try clear hcz24_0
           try clear hcz24_1
           try clear hcz27_0
           try clear hcz27_1
           try clear hcz30_0
           try clear hcz30_1
           try clear hcz34_0
           try clear hcz34_1
           try clear hcz39_0
           try clear hcz39_1
           try clear hcz8_0
           try clear hcz8_1
           try clear hcz9_0
           try clear hcz9_1
           try clear hfz11_0
           try clear hfz11_1
           try clear hfz15_0
           try clear hfz15_1
           try clear hfz18_0
           try clear hfz18_1
           try clear hfz19_0
           try clear hfz19_1
           try clear hfz23_0
           try clear hfz23_1
           try clear hfz24_0
           try clear hfz24_1
           try clear hfz27_0
           try clear hfz27_1
           try clear hfz30_0
           try clear hfz30_1
           try clear hfz34_0
           try clear hfz34_1
           try clear hfz39_0
           try clear hfz39_1
           try clear hfz8_0
           try clear hfz8_1
           try clear hfz9_0
           try clear hfz9_1
           obtain ⟨x7_4, rfl, HA, HK4, BK219, BK220, HB⟩ := hrel
           cases gk with
           | zero => exact absurd HA.out (by simp [platenref04_Compare.l0])
           | succ k4 =>
            have H := HA.out
            clear HA
            simp only [platenref04_Compare.l0] at H
            by_cases c41 : x7_4 ≥ x6_31
            ·rw [if_pos c41] at H
             have c41b0 : decide (x6_31 ≤ x7_4) = true := decide_eq_true c41
             clear c41
             replace H := Option.bind_eq_some_iff.mp H
             obtain ⟨t224, A420, H⟩ := H
             replace H : ((platenref04_digit.f a1_0 a1_1 x7_4).bind fun t225 => (if t224 < t225 then (some (-1)) else (if t224 > t225 then (some 1) else (platenref04_Compare.l0 k4 x6_31 (wrap64 (x7_4 - 1)) a0_0 a0_1 a1_0 a1_1)))) = some r := H
             have A42 := Aside0.mk A420
             clear A420
             replace H := Option.bind_eq_some_iff.mp H
             obtain ⟨t225, A430, H⟩ := H
             replace H : (if t224 < t225 then (some (-1)) else (if t224 > t225 then (some 1) else (platenref04_Compare.l0 k4 x6_31 (wrap64 (x7_4 - 1)) a0_0 a0_1 a1_0 a1_1))) = some r := H
             have A43 := Aside0.mk A430
             clear A430
             by_cases c44 : t224 < t225
             ·rw [if_pos c44] at H
              have c44b0 : decide (t224 < t225) = true := decide_eq_true c44
              clear c44
              obtain rfl := Option.some.inj H
              try go_wp2
              have n0_ := Aside0.mk (blk_drew BK219.out)
              have n1_ := Aside0.mk (blk_drew BK220.out)
              have n2_ := Aside0.mk (below_drew1 HB.out)
              clear BK219
              clear BK220
              clear HB
              have BK219 := n0_
              have BK220 := n1_
              have HB := n2_
              clear n0_ n1_ n2_
              refine start_ (n := 8) (S := fun w' => w'.cell? ⟨gb219, 0, none⟩ = some (.string a0_0) ∧ w'.cell? ⟨gb219, 1, none⟩ = some (.int .i64 a0_1) ∧ w'.cell? ⟨gb220, 0, none⟩ = some (.string a1_0) ∧ w'.cell? ⟨gb220, 1, none⟩ = some (.int .i64 a1_1)) (ds := []) #[false, false, false, false, false, false, false, false] (by kernel_rfl) rfl rfl ⟨(blk_cell BK219.out 0).trans rfl, (blk_cell BK219.out 1).trans rfl, (blk_cell BK220.out 0).trans rfl, (blk_cell BK220.out 1).trans rfl⟩ (fun hHeld => ?_); refine with_tabW platenref04_Compare.tab15 platenref04_Compare.bits15 (fun HT_ HW_ => ?_)
              generalize wr.drew = w45 at BK219 BK220 HB hHeld ⊢
              refine pure_ (i := 1) (N := some 47) (v := ?_) (a' := ?_) #[false, true, false, false, false, false, false, false] rfl rfl (any_of HT_.out (by kernel_rfl)) (fun _ _ _ h => h) (Or.inl ⟨by rfl, ?_⟩) ?_ ?_
              rotate_left
              ·intro w'
               go_simp
               with_reducible rfl
              rotate_left
              ·simp only [Act.put, List.setIfInBounds_toArray, List.set_cons_zero, List.set_cons_succ, i64_w, i32_w]
               rfl
              refine pure_ (i := 4) (N := some 50) (v := ?_) (a' := ?_) #[false, true, false, false, true, false, false, false] rfl rfl (any_of HT_.out (by kernel_rfl)) (fun _ _ _ h => h) (Or.inl ⟨by rfl, ?_⟩) ?_ ?_
              rotate_left
              ·intro w'
               go_simp
               with_reducible rfl
              rotate_left
              ·simp only [Act.put, List.setIfInBounds_toArray, List.set_cons_zero, List.set_cons_succ, i64_w, i32_w]
               rfl
              refine take_ (i := 0) (N := some 46) (v := ?_) (a' := ?_) #[true, true, false, false, true, false, false, false] rfl rfl (take_ofW HT_.out HW_.out (by kernel_rfl)) (fun _ _ _ h => h) (Or.inl ⟨by rfl, ?_⟩) hHeld ?_ ?_
              rotate_left
              ·rintro w' ⟨s0, s1, s2, s3⟩
               go_simp
               with_reducible rfl
              rotate_left
              ·simp only [Act.put, List.setIfInBounds_toArray, List.set_cons_zero, List.set_cons_succ, i64_w, i32_w]
               rfl
              refine take_ (i := 3) (N := some 49) (v := ?_) (a' := ?_) #[true, true, false, true, true, false, false, false] rfl rfl (take_ofW HT_.out HW_.out (by kernel_rfl)) (fun _ _ _ h => h) (Or.inl ⟨by rfl, ?_⟩) hHeld ?_ ?_
              rotate_left
              ·rintro w' ⟨s0, s1, s2, s3⟩
               go_simp
               with_reducible rfl
              rotate_left
              ·simp only [Act.put, List.setIfInBounds_toArray, List.set_cons_zero, List.set_cons_succ, i64_w, i32_w]
               rfl
              refine one_ (i := 2) (N := some 48) #[true, true, true, true, true, false, false, false] rfl rfl (one_of HT_.out (by kernel_rfl)) (by decide) (fun K hK => ?_)
              refine goes_ Tryd.func45 (by kernel_rfl) rfl #[.agg #[.string a0_0, .int .i64 a0_1], .int .i64 x7_4] (by rfl) rfl rfl (by (try simp only [List.map_toArray, List.map_cons, List.map_nil]); first | done | rfl | (simp only [List.length_drop, List.length_take]; rfl)) ?_
              with_reducible refine (platenref04_digit.calls a0_0 a0_1 x7_4 t224 _ A42.out).mono ?_
              rintro e w46 ⟨rfl, hb⟩
              refine ⟨_, rfl, ?_⟩
              have n0_ := Aside0.mk (blk_below (g := gb219) (o := .cells #[.string a0_0, .int .i64 a0_1] 23 (0, 0)) (by (with_reducible repeat (first | refine blk_drewN ?_ _ | refine blk_drew ?_ | refine blk_alloc ?_ _)); exact BK219.out) hb)
              have n1_ := Aside0.mk (blk_below (g := gb220) (o := .cells #[.string a1_0, .int .i64 a1_1] 23 (0, 0)) (by (with_reducible repeat (first | refine blk_drewN ?_ _ | refine blk_drew ?_ | refine blk_alloc ?_ _)); exact BK220.out) hb)
              have n2_ := Aside0.mk (below_step (by repeat (first | (with_reducible first | exact HB.out | apply below_alloc | apply pw_below_drewN | apply below_drew1 | refine below_set ?_ GE219.out | refine below_set ?_ GE220.out) | exact HB.out)) hb)
              clear BK219
              clear BK220
              clear HB
              have BK219 := n0_
              have BK220 := n1_
              have HB := n2_
              clear n0_ n1_ n2_
              (try clear hb)
              (try clear hb2)
              (try clear hk)
              (try clear hi)
              refine hK.out _ _ ⟨(blk_cell BK219.out 0).trans rfl, (blk_cell BK219.out 1).trans rfl, (blk_cell BK220.out 0).trans rfl, (blk_cell BK220.out 1).trans rfl⟩ (fun hHeld => ?_)
              clear hK K
              refine norm_ (a' := ?_) ?_ ?_
              rotate_left
              ·show Act.put _ (some 48) _ = _
               simp only [Act.put, List.setIfInBounds_toArray, List.set_cons_zero, List.set_cons_succ, i64_w, i32_w]
               rfl
              refine one_ (i := 5) (N := some 51) #[true, true, true, true, true, true, false, false] rfl rfl (one_of HT_.out (by kernel_rfl)) (by decide) (fun K hK => ?_)
              refine goes_ Tryd.func45 (by kernel_rfl) rfl #[.agg #[.string a1_0, .int .i64 a1_1], .int .i64 x7_4] (by rfl) rfl rfl (by (try simp only [List.map_toArray, List.map_cons, List.map_nil]); first | done | rfl | (simp only [List.length_drop, List.length_take]; rfl)) ?_
              with_reducible refine (platenref04_digit.calls a1_0 a1_1 x7_4 t225 _ A43.out).mono ?_
              rintro e w47 ⟨rfl, hb⟩
              refine ⟨_, rfl, ?_⟩
              have n0_ := Aside0.mk (blk_below (g := gb219) (o := .cells #[.string a0_0, .int .i64 a0_1] 23 (0, 0)) (by (with_reducible repeat (first | refine blk_drewN ?_ _ | refine blk_drew ?_ | refine blk_alloc ?_ _)); exact BK219.out) hb)
              have n1_ := Aside0.mk (blk_below (g := gb220) (o := .cells #[.string a1_0, .int .i64 a1_1] 23 (0, 0)) (by (with_reducible repeat (first | refine blk_drewN ?_ _ | refine blk_drew ?_ | refine blk_alloc ?_ _)); exact BK220.out) hb)
              have n2_ := Aside0.mk (below_step (by repeat (first | (with_reducible first | exact HB.out | apply below_alloc | apply pw_below_drewN | apply below_drew1 | refine below_set ?_ GE219.out | refine below_set ?_ GE220.out) | exact HB.out)) hb)
              clear BK219
              clear BK220
              clear HB
              have BK219 := n0_
              have BK220 := n1_
              have HB := n2_
              clear n0_ n1_ n2_
              (try clear hb)
              (try clear hb2)
              (try clear hk)
              (try clear hi)
              refine hK.out _ _ ⟨(blk_cell BK219.out 0).trans rfl, (blk_cell BK219.out 1).trans rfl, (blk_cell BK220.out 0).trans rfl, (blk_cell BK220.out 1).trans rfl⟩ (fun hHeld => ?_)
              clear hK K
              refine norm_ (a' := ?_) ?_ ?_
              rotate_left
              ·show Act.put _ (some 51) _ = _
               simp only [Act.put, List.setIfInBounds_toArray, List.set_cons_zero, List.set_cons_succ, i64_w, i32_w]
               rfl
              refine pure_ (i := 6) (N := some 8) (v := ?_) (a' := ?_) #[true, true, true, true, true, true, true, false] rfl rfl (any_of HT_.out (by kernel_rfl)) (fun _ _ _ h => h) (Or.inl ⟨by rfl, ?_⟩) ?_ ?_
              rotate_left
              ·intro w'
               go_simp
               with_reducible rfl
              rotate_left
              ·simp only [Act.put, List.setIfInBounds_toArray, List.set_cons_zero, List.set_cons_succ, i64_w, i32_w]
               rfl
              refine pure_ (i := 7) (N := some 9) (v := ?_) (a' := ?_) #[true, true, true, true, true, true, true, true] rfl rfl (any_of HT_.out (by kernel_rfl)) (fun _ _ _ h => h) (Or.inl ⟨by rfl, ?_⟩) ?_ ?_
              rotate_left
              ·intro w'
               go_simp
               with_reducible rfl
              rotate_left
              ·simp only [Act.put, List.setIfInBounds_toArray, List.set_cons_zero, List.set_cons_succ, i64_w, i32_w]
               rfl
              refine done_ (done_of HT_.out (by kernel_rfl)) ?_
              try go_wp2
              go_ret
              exact ⟨by first | rfl | (simp [errW_none, errW_some] <;> rfl) | (simp [*, errW_none, errW_some] <;> rfl), by repeat (first | (with_reducible first | exact HB.out | apply below_alloc | apply pw_below_drewN | apply below_drew1 | refine below_set ?_ GE219.out | refine below_set ?_ GE220.out) | exact HB.out)⟩
             ·rw [if_neg c44] at H
              have c44b0 : decide (t224 < t225) = false := decide_eq_false c44
              clear c44
              by_cases c48 : t224 > t225
              ·rw [if_pos c48] at H
               have c48b0 : decide (t225 < t224) = true := decide_eq_true c48
               clear c48
               obtain rfl := Option.some.inj H
               try go_wp2
               have n0_ := Aside0.mk (blk_drew BK219.out)
               have n1_ := Aside0.mk (blk_drew BK220.out)
               have n2_ := Aside0.mk (below_drew1 HB.out)
               clear BK219
               clear BK220
               clear HB
               have BK219 := n0_
               have BK220 := n1_
               have HB := n2_
               clear n0_ n1_ n2_
               refine start_ (n := 8) (S := fun w' => w'.cell? ⟨gb219, 0, none⟩ = some (.string a0_0) ∧ w'.cell? ⟨gb219, 1, none⟩ = some (.int .i64 a0_1) ∧ w'.cell? ⟨gb220, 0, none⟩ = some (.string a1_0) ∧ w'.cell? ⟨gb220, 1, none⟩ = some (.int .i64 a1_1)) (ds := []) #[false, false, false, false, false, false, false, false] (by kernel_rfl) rfl rfl ⟨(blk_cell BK219.out 0).trans rfl, (blk_cell BK219.out 1).trans rfl, (blk_cell BK220.out 0).trans rfl, (blk_cell BK220.out 1).trans rfl⟩ (fun hHeld => ?_); refine with_tabW platenref04_Compare.tab15 platenref04_Compare.bits15 (fun HT_ HW_ => ?_)
               generalize wr.drew = w49 at BK219 BK220 HB hHeld ⊢
               refine pure_ (i := 1) (N := some 47) (v := ?_) (a' := ?_) #[false, true, false, false, false, false, false, false] rfl rfl (any_of HT_.out (by kernel_rfl)) (fun _ _ _ h => h) (Or.inl ⟨by rfl, ?_⟩) ?_ ?_
               rotate_left
               ·intro w'
                go_simp
                with_reducible rfl
               rotate_left
               ·simp only [Act.put, List.setIfInBounds_toArray, List.set_cons_zero, List.set_cons_succ, i64_w, i32_w]
                rfl
               refine pure_ (i := 4) (N := some 50) (v := ?_) (a' := ?_) #[false, true, false, false, true, false, false, false] rfl rfl (any_of HT_.out (by kernel_rfl)) (fun _ _ _ h => h) (Or.inl ⟨by rfl, ?_⟩) ?_ ?_
               rotate_left
               ·intro w'
                go_simp
                with_reducible rfl
               rotate_left
               ·simp only [Act.put, List.setIfInBounds_toArray, List.set_cons_zero, List.set_cons_succ, i64_w, i32_w]
                rfl
               refine take_ (i := 0) (N := some 46) (v := ?_) (a' := ?_) #[true, true, false, false, true, false, false, false] rfl rfl (take_ofW HT_.out HW_.out (by kernel_rfl)) (fun _ _ _ h => h) (Or.inl ⟨by rfl, ?_⟩) hHeld ?_ ?_
               rotate_left
               ·rintro w' ⟨s0, s1, s2, s3⟩
                go_simp
                with_reducible rfl
               rotate_left
               ·simp only [Act.put, List.setIfInBounds_toArray, List.set_cons_zero, List.set_cons_succ, i64_w, i32_w]
                rfl
               refine take_ (i := 3) (N := some 49) (v := ?_) (a' := ?_) #[true, true, false, true, true, false, false, false] rfl rfl (take_ofW HT_.out HW_.out (by kernel_rfl)) (fun _ _ _ h => h) (Or.inl ⟨by rfl, ?_⟩) hHeld ?_ ?_
               rotate_left
               ·rintro w' ⟨s0, s1, s2, s3⟩
                go_simp
                with_reducible rfl
               rotate_left
               ·simp only [Act.put, List.setIfInBounds_toArray, List.set_cons_zero, List.set_cons_succ, i64_w, i32_w]
                rfl
               refine one_ (i := 2) (N := some 48) #[true, true, true, true, true, false, false, false] rfl rfl (one_of HT_.out (by kernel_rfl)) (by decide) (fun K hK => ?_)
               refine goes_ Tryd.func45 (by kernel_rfl) rfl #[.agg #[.string a0_0, .int .i64 a0_1], .int .i64 x7_4] (by rfl) rfl rfl (by (try simp only [List.map_toArray, List.map_cons, List.map_nil]); first | done | rfl | (simp only [List.length_drop, List.length_take]; rfl)) ?_
               with_reducible refine (platenref04_digit.calls a0_0 a0_1 x7_4 t224 _ A42.out).mono ?_
               rintro e w50 ⟨rfl, hb⟩
               refine ⟨_, rfl, ?_⟩
               have n0_ := Aside0.mk (blk_below (g := gb219) (o := .cells #[.string a0_0, .int .i64 a0_1] 23 (0, 0)) (by (with_reducible repeat (first | refine blk_drewN ?_ _ | refine blk_drew ?_ | refine blk_alloc ?_ _)); exact BK219.out) hb)
               have n1_ := Aside0.mk (blk_below (g := gb220) (o := .cells #[.string a1_0, .int .i64 a1_1] 23 (0, 0)) (by (with_reducible repeat (first | refine blk_drewN ?_ _ | refine blk_drew ?_ | refine blk_alloc ?_ _)); exact BK220.out) hb)
               have n2_ := Aside0.mk (below_step (by repeat (first | (with_reducible first | exact HB.out | apply below_alloc | apply pw_below_drewN | apply below_drew1 | refine below_set ?_ GE219.out | refine below_set ?_ GE220.out) | exact HB.out)) hb)
               clear BK219
               clear BK220
               clear HB
               have BK219 := n0_
               have BK220 := n1_
               have HB := n2_
               clear n0_ n1_ n2_
               (try clear hb)
               (try clear hb2)
               (try clear hk)
               (try clear hi)
               refine hK.out _ _ ⟨(blk_cell BK219.out 0).trans rfl, (blk_cell BK219.out 1).trans rfl, (blk_cell BK220.out 0).trans rfl, (blk_cell BK220.out 1).trans rfl⟩ (fun hHeld => ?_)
               clear hK K
               refine norm_ (a' := ?_) ?_ ?_
               rotate_left
               ·show Act.put _ (some 48) _ = _
                simp only [Act.put, List.setIfInBounds_toArray, List.set_cons_zero, List.set_cons_succ, i64_w, i32_w]
                rfl
               refine one_ (i := 5) (N := some 51) #[true, true, true, true, true, true, false, false] rfl rfl (one_of HT_.out (by kernel_rfl)) (by decide) (fun K hK => ?_)
               refine goes_ Tryd.func45 (by kernel_rfl) rfl #[.agg #[.string a1_0, .int .i64 a1_1], .int .i64 x7_4] (by rfl) rfl rfl (by (try simp only [List.map_toArray, List.map_cons, List.map_nil]); first | done | rfl | (simp only [List.length_drop, List.length_take]; rfl)) ?_
               with_reducible refine (platenref04_digit.calls a1_0 a1_1 x7_4 t225 _ A43.out).mono ?_
               rintro e w51 ⟨rfl, hb⟩
               refine ⟨_, rfl, ?_⟩
               have n0_ := Aside0.mk (blk_below (g := gb219) (o := .cells #[.string a0_0, .int .i64 a0_1] 23 (0, 0)) (by (with_reducible repeat (first | refine blk_drewN ?_ _ | refine blk_drew ?_ | refine blk_alloc ?_ _)); exact BK219.out) hb)
               have n1_ := Aside0.mk (blk_below (g := gb220) (o := .cells #[.string a1_0, .int .i64 a1_1] 23 (0, 0)) (by (with_reducible repeat (first | refine blk_drewN ?_ _ | refine blk_drew ?_ | refine blk_alloc ?_ _)); exact BK220.out) hb)
               have n2_ := Aside0.mk (below_step (by repeat (first | (with_reducible first | exact HB.out | apply below_alloc | apply pw_below_drewN | apply below_drew1 | refine below_set ?_ GE219.out | refine below_set ?_ GE220.out) | exact HB.out)) hb)
               clear BK219
               clear BK220
               clear HB
               have BK219 := n0_
               have BK220 := n1_
               have HB := n2_
               clear n0_ n1_ n2_
               (try clear hb)
               (try clear hb2)
               (try clear hk)
               (try clear hi)
               refine hK.out _ _ ⟨(blk_cell BK219.out 0).trans rfl, (blk_cell BK219.out 1).trans rfl, (blk_cell BK220.out 0).trans rfl, (blk_cell BK220.out 1).trans rfl⟩ (fun hHeld => ?_)
               clear hK K
               refine norm_ (a' := ?_) ?_ ?_
               rotate_left
               ·show Act.put _ (some 51) _ = _
                simp only [Act.put, List.setIfInBounds_toArray, List.set_cons_zero, List.set_cons_succ, i64_w, i32_w]
                rfl
               refine pure_ (i := 6) (N := some 8) (v := ?_) (a' := ?_) #[true, true, true, true, true, true, true, false] rfl rfl (any_of HT_.out (by kernel_rfl)) (fun _ _ _ h => h) (Or.inl ⟨by rfl, ?_⟩) ?_ ?_
               rotate_left
               ·intro w'
                go_simp
                with_reducible rfl
               rotate_left
               ·simp only [Act.put, List.setIfInBounds_toArray, List.set_cons_zero, List.set_cons_succ, i64_w, i32_w]
                rfl
               refine pure_ (i := 7) (N := some 9) (v := ?_) (a' := ?_) #[true, true, true, true, true, true, true, true] rfl rfl (any_of HT_.out (by kernel_rfl)) (fun _ _ _ h => h) (Or.inl ⟨by rfl, ?_⟩) ?_ ?_
               rotate_left
               ·intro w'
                go_simp
                with_reducible rfl
               rotate_left
               ·simp only [Act.put, List.setIfInBounds_toArray, List.set_cons_zero, List.set_cons_succ, i64_w, i32_w]
                rfl
               refine done_ (done_of HT_.out (by kernel_rfl)) ?_
               try go_wp2
               go_ret
               exact ⟨by first | rfl | (simp [errW_none, errW_some] <;> rfl) | (simp [*, errW_none, errW_some] <;> rfl), by repeat (first | (with_reducible first | exact HB.out | apply below_alloc | apply pw_below_drewN | apply below_drew1 | refine below_set ?_ GE219.out | refine below_set ?_ GE220.out) | exact HB.out)⟩
              ·rw [if_neg c48] at H
               have c48b0 : decide (t225 < t224) = false := decide_eq_false c48
               clear c48
               have H' := Aside0.mk H
               clear H
               try go_wp2
               have n0_ := Aside0.mk (blk_drew BK219.out)
               have n1_ := Aside0.mk (blk_drew BK220.out)
               have n2_ := Aside0.mk (below_drew1 HB.out)
               clear BK219
               clear BK220
               clear HB
               have BK219 := n0_
               have BK220 := n1_
               have HB := n2_
               clear n0_ n1_ n2_
               refine start_ (n := 8) (S := fun w' => w'.cell? ⟨gb219, 0, none⟩ = some (.string a0_0) ∧ w'.cell? ⟨gb219, 1, none⟩ = some (.int .i64 a0_1) ∧ w'.cell? ⟨gb220, 0, none⟩ = some (.string a1_0) ∧ w'.cell? ⟨gb220, 1, none⟩ = some (.int .i64 a1_1)) (ds := []) #[false, false, false, false, false, false, false, false] (by kernel_rfl) rfl rfl ⟨(blk_cell BK219.out 0).trans rfl, (blk_cell BK219.out 1).trans rfl, (blk_cell BK220.out 0).trans rfl, (blk_cell BK220.out 1).trans rfl⟩ (fun hHeld => ?_); refine with_tabW platenref04_Compare.tab15 platenref04_Compare.bits15 (fun HT_ HW_ => ?_)
               generalize wr.drew = w52 at BK219 BK220 HB hHeld ⊢
               refine pure_ (i := 1) (N := some 47) (v := ?_) (a' := ?_) #[false, true, false, false, false, false, false, false] rfl rfl (any_of HT_.out (by kernel_rfl)) (fun _ _ _ h => h) (Or.inl ⟨by rfl, ?_⟩) ?_ ?_
               rotate_left
               ·intro w'
                go_simp
                with_reducible rfl
               rotate_left
               ·simp only [Act.put, List.setIfInBounds_toArray, List.set_cons_zero, List.set_cons_succ, i64_w, i32_w]
                rfl
               refine pure_ (i := 4) (N := some 50) (v := ?_) (a' := ?_) #[false, true, false, false, true, false, false, false] rfl rfl (any_of HT_.out (by kernel_rfl)) (fun _ _ _ h => h) (Or.inl ⟨by rfl, ?_⟩) ?_ ?_
               rotate_left
               ·intro w'
                go_simp
                with_reducible rfl
               rotate_left
               ·simp only [Act.put, List.setIfInBounds_toArray, List.set_cons_zero, List.set_cons_succ, i64_w, i32_w]
                rfl
               refine take_ (i := 0) (N := some 46) (v := ?_) (a' := ?_) #[true, true, false, false, true, false, false, false] rfl rfl (take_ofW HT_.out HW_.out (by kernel_rfl)) (fun _ _ _ h => h) (Or.inl ⟨by rfl, ?_⟩) hHeld ?_ ?_
               rotate_left
               ·rintro w' ⟨s0, s1, s2, s3⟩
                go_simp
                with_reducible rfl
               rotate_left
               ·simp only [Act.put, List.setIfInBounds_toArray, List.set_cons_zero, List.set_cons_succ, i64_w, i32_w]
                rfl
               refine take_ (i := 3) (N := some 49) (v := ?_) (a' := ?_) #[true, true, false, true, true, false, false, false] rfl rfl (take_ofW HT_.out HW_.out (by kernel_rfl)) (fun _ _ _ h => h) (Or.inl ⟨by rfl, ?_⟩) hHeld ?_ ?_
               rotate_left
               ·rintro w' ⟨s0, s1, s2, s3⟩
                go_simp
                with_reducible rfl
               rotate_left
               ·simp only [Act.put, List.setIfInBounds_toArray, List.set_cons_zero, List.set_cons_succ, i64_w, i32_w]
                rfl
               refine one_ (i := 2) (N := some 48) #[true, true, true, true, true, false, false, false] rfl rfl (one_of HT_.out (by kernel_rfl)) (by decide) (fun K hK => ?_)
               refine goes_ Tryd.func45 (by kernel_rfl) rfl #[.agg #[.string a0_0, .int .i64 a0_1], .int .i64 x7_4] (by rfl) rfl rfl (by (try simp only [List.map_toArray, List.map_cons, List.map_nil]); first | done | rfl | (simp only [List.length_drop, List.length_take]; rfl)) ?_
               with_reducible refine (platenref04_digit.calls a0_0 a0_1 x7_4 t224 _ A42.out).mono ?_
               rintro e w53 ⟨rfl, hb⟩
               refine ⟨_, rfl, ?_⟩
               have n0_ := Aside0.mk (blk_below (g := gb219) (o := .cells #[.string a0_0, .int .i64 a0_1] 23 (0, 0)) (by (with_reducible repeat (first | refine blk_drewN ?_ _ | refine blk_drew ?_ | refine blk_alloc ?_ _)); exact BK219.out) hb)
               have n1_ := Aside0.mk (blk_below (g := gb220) (o := .cells #[.string a1_0, .int .i64 a1_1] 23 (0, 0)) (by (with_reducible repeat (first | refine blk_drewN ?_ _ | refine blk_drew ?_ | refine blk_alloc ?_ _)); exact BK220.out) hb)
               have n2_ := Aside0.mk (below_step (by repeat (first | (with_reducible first | exact HB.out | apply below_alloc | apply pw_below_drewN | apply below_drew1 | refine below_set ?_ GE219.out | refine below_set ?_ GE220.out) | exact HB.out)) hb)
               clear BK219
               clear BK220
               clear HB
               have BK219 := n0_
               have BK220 := n1_
               have HB := n2_
               clear n0_ n1_ n2_
               (try clear hb)
               (try clear hb2)
               (try clear hk)
               (try clear hi)
               refine hK.out _ _ ⟨(blk_cell BK219.out 0).trans rfl, (blk_cell BK219.out 1).trans rfl, (blk_cell BK220.out 0).trans rfl, (blk_cell BK220.out 1).trans rfl⟩ (fun hHeld => ?_)
               clear hK K
               refine norm_ (a' := ?_) ?_ ?_
               rotate_left
               ·show Act.put _ (some 48) _ = _
                simp only [Act.put, List.setIfInBounds_toArray, List.set_cons_zero, List.set_cons_succ, i64_w, i32_w]
                rfl
               refine one_ (i := 5) (N := some 51) #[true, true, true, true, true, true, false, false] rfl rfl (one_of HT_.out (by kernel_rfl)) (by decide) (fun K hK => ?_)
               refine goes_ Tryd.func45 (by kernel_rfl) rfl #[.agg #[.string a1_0, .int .i64 a1_1], .int .i64 x7_4] (by rfl) rfl rfl (by (try simp only [List.map_toArray, List.map_cons, List.map_nil]); first | done | rfl | (simp only [List.length_drop, List.length_take]; rfl)) ?_
               with_reducible refine (platenref04_digit.calls a1_0 a1_1 x7_4 t225 _ A43.out).mono ?_
               rintro e w54 ⟨rfl, hb⟩
               refine ⟨_, rfl, ?_⟩
               have n0_ := Aside0.mk (blk_below (g := gb219) (o := .cells #[.string a0_0, .int .i64 a0_1] 23 (0, 0)) (by (with_reducible repeat (first | refine blk_drewN ?_ _ | refine blk_drew ?_ | refine blk_alloc ?_ _)); exact BK219.out) hb)
               have n1_ := Aside0.mk (blk_below (g := gb220) (o := .cells #[.string a1_0, .int .i64 a1_1] 23 (0, 0)) (by (with_reducible repeat (first | refine blk_drewN ?_ _ | refine blk_drew ?_ | refine blk_alloc ?_ _)); exact BK220.out) hb)
               have n2_ := Aside0.mk (below_step (by repeat (first | (with_reducible first | exact HB.out | apply below_alloc | apply pw_below_drewN | apply below_drew1 | refine below_set ?_ GE219.out | refine below_set ?_ GE220.out) | exact HB.out)) hb)
               clear BK219
               clear BK220
               clear HB
               have BK219 := n0_
               have BK220 := n1_
               have HB := n2_
               clear n0_ n1_ n2_
               (try clear hb)
               (try clear hb2)
               (try clear hk)
               (try clear hi)
               refine hK.out _ _ ⟨(blk_cell BK219.out 0).trans rfl, (blk_cell BK219.out 1).trans rfl, (blk_cell BK220.out 0).trans rfl, (blk_cell BK220.out 1).trans rfl⟩ (fun hHeld => ?_)
               clear hK K
               refine norm_ (a' := ?_) ?_ ?_
               rotate_left
               ·show Act.put _ (some 51) _ = _
                simp only [Act.put, List.setIfInBounds_toArray, List.set_cons_zero, List.set_cons_succ, i64_w, i32_w]
                rfl
               refine pure_ (i := 6) (N := some 8) (v := ?_) (a' := ?_) #[true, true, true, true, true, true, true, false] rfl rfl (any_of HT_.out (by kernel_rfl)) (fun _ _ _ h => h) (Or.inl ⟨by rfl, ?_⟩) ?_ ?_
               rotate_left
               ·intro w'
                go_simp
                with_reducible rfl
               rotate_left
               ·simp only [Act.put, List.setIfInBounds_toArray, List.set_cons_zero, List.set_cons_succ, i64_w, i32_w]
                rfl
               refine pure_ (i := 7) (N := some 9) (v := ?_) (a' := ?_) #[true, true, true, true, true, true, true, true] rfl rfl (any_of HT_.out (by kernel_rfl)) (fun _ _ _ h => h) (Or.inl ⟨by rfl, ?_⟩) ?_ ?_
               rotate_left
               ·intro w'
                go_simp
                with_reducible rfl
               rotate_left
               ·simp only [Act.put, List.setIfInBounds_toArray, List.set_cons_zero, List.set_cons_succ, i64_w, i32_w]
                rfl
               refine done_ (done_of HT_.out (by kernel_rfl)) ?_
               try go_wp2
               go_roundg k4
               case measure => have := HJ2.out; have := HJ20.out; have := HJ31.out; have := HK4.out; omega
               case rel => exact ⟨(wrap64 (x7_4 - 1)), (by first | rfl | (simp; done) | (simp [*]; done)), H', ⟨by have := HJ2.out; have := HJ20.out; have := HJ31.out; have := HK4.out; omega⟩, ⟨by (with_reducible repeat (first | refine blk_drewN ?_ _ | refine blk_drew ?_ | refine blk_alloc ?_ _)); exact BK219.out⟩, ⟨by (with_reducible repeat (first | refine blk_drewN ?_ _ | refine blk_drew ?_ | refine blk_alloc ?_ _)); exact BK220.out⟩, ⟨by repeat (first | (with_reducible first | exact HB.out | apply below_alloc | apply pw_below_drewN | apply below_drew1 | refine below_set ?_ GE219.out | refine below_set ?_ GE220.out) | exact HB.out)⟩⟩
            ·rw [if_neg c41] at H
             have c41b0 : decide (x6_31 ≤ x7_4) = false := decide_eq_false c41
             clear c41
             obtain rfl := Option.some.inj H
             go_wp2
             go_ret
             exact ⟨by first | rfl | (simp [errW_none, errW_some] <;> rfl) | (simp [*, errW_none, errW_some] <;> rfl), by repeat (first | (with_reducible first | exact HB.out | apply below_alloc | apply pw_below_drewN | apply below_drew1 | refine below_set ?_ GE219.out | refine below_set ?_ GE220.out) | exact HB.out)⟩
end Go.Proofs.YtobidkjmgkmaoaaDoor.Fn
end
section
namespace Go.Proofs.YtobidkjmgkmaoaaDoor.Pure
open Go.RowKit Go.Proofs.YtobidkjmgkmaoaaDoorW.PrintWords Go.Proofs.YtobidkjmgkmaoaaDoor.Fn
set_option linter.unusedVariables false
set_option linter.unusedSimpArgs false
def sv (l : List UInt8) (p E : Int) : Nat := val l * 10 ^ (p - l.length - E).toNat
def cmpN (a b : Nat) : Int := if a < b then -1 else if b < a then 1 else 0
theorem cmpN_mul (a b k : Nat) (hk : 0 < k) : cmpN (a * k) (b * k) = cmpN a b := by
  unfold cmpN
  by_cases h1 : a < b
  · rw [if_pos h1, if_pos (Nat.mul_lt_mul_of_pos_right h1 hk)]
  · rw [if_neg h1, if_neg (fun h => h1 (Nat.lt_of_mul_lt_mul_right h))]
    by_cases h2 : b < a
    · rw [if_pos h2, if_pos (Nat.mul_lt_mul_of_pos_right h2 hk)]
    · rw [if_neg h2, if_neg (fun h => h2 (Nat.lt_of_mul_lt_mul_right h))]
theorem cmpN_add (x a b : Nat) : cmpN (x + a) (x + b) = cmpN a b := by
  have e1 : x + a < x + b ↔ a < b := by omega
  have e2 : x + b < x + a ↔ b < a := by omega
  unfold cmpN
  simp only [e1, e2]
theorem cmpN_lt {a b : Nat} (h : a < b) : cmpN a b = -1 := if_pos h
theorem cmpN_gt {a b : Nat} (h : b < a) : cmpN a b = 1 := by unfold cmpN; rw [if_neg (by omega), if_pos h]
theorem cmpN_self (a : Nat) : cmpN a a = 0 := by unfold cmpN; rw [if_neg (by omega), if_neg (by omega)]
theorem sv_lower (l : List UInt8) (p E : Int) (h : E ≤ p - l.length) (k : Nat) : sv l p (E - k) = sv l p E * 10 ^ k := by
  unfold sv
  have : (p - l.length - (E - k)).toNat = (p - l.length - E).toNat + k := by omega
  rw [this, Nat.pow_add, Nat.mul_assoc]
theorem decOf_sv {l : List UInt8} {p : Int} (h : InForm l p) {E : Int} (hE : E ≤ p - l.length) : decOf (sv l p E) E = (l, p) := by
  have h1 := decOf_scale (val l) (p - l.length - E).toNat (p - l.length)
  have h2 : (p - (l.length : Int)) - ((p - l.length - E).toNat : Int) = E := by omega
  rw [h2, decOf_val h] at h1
  exact h1
def cmpD (a : List UInt8) (p : Int) (b : List UInt8) (q : Int) : Int := cmpN (sv a p (min (p - a.length) (q - b.length))) (sv b q (min (p - a.length) (q - b.length)))
theorem cmpD_at {a b : List UInt8} {p q E : Int} (h1 : E ≤ p - a.length) (h2 : E ≤ q - b.length) : cmpD a p b q = cmpN (sv a p E) (sv b q E) := by
  unfold cmpD
  obtain ⟨k, hk⟩ : ∃ k : Nat, E = min (p - (a.length : Int)) (q - b.length) - k := ⟨(min (p - (a.length : Int)) (q - b.length) - E).toNat, by omega⟩
  rw [hk, sv_lower a p _ (by omega), sv_lower b q _ (by omega), cmpN_mul _ _ _ (Nat.pow_pos (by omega))]
theorem sv_lt {l : List UInt8} (h : AllD l) {p E : Int} (hE : E ≤ p - l.length) : sv l p E < 10 ^ (p - E).toNat := by
  unfold sv
  have h1 := val_lt h
  have h2 : (p - E).toNat = l.length + (p - l.length - E).toNat := by omega
  rw [h2, Nat.pow_add]
  exact Nat.mul_lt_mul_of_pos_right h1 (Nat.pow_pos (by omega))
theorem last_ne {l : List UInt8} (h : AllD l) (hr : rz l = l) (hn : l ≠ []) : val l ≠ 0 := by
  rcases List.eq_nil_or_concat l with rfl | ⟨t, c, rfl⟩
  · exact absurd rfl hn
  · rw [List.concat_eq_append] at *
    have hc : c.toNat ≠ 48 := by
      intro e
      rw [rz_snoc_eq e] at hr
      have := length_rz t
      rw [hr] at this
      simp at this
      omega
    rw [val_snoc]
    have := h.last
    unfold dig
    omega
theorem rz_tail {c : UInt8} {t : List UInt8} (h : rz (c :: t) = c :: t) : rz t = t := by
  rcases List.eq_nil_or_concat t with rfl | ⟨u, d, rfl⟩
  · rfl
  · rw [List.concat_eq_append] at *
    by_cases e : d.toNat = 48
    · rw [← List.cons_append, rz_snoc_eq e] at h
      have := length_rz (c :: u)
      rw [h] at this
      simp at this
      omega
    · exact rz_snoc_ne e
theorem normS_cases (s : ByteArray) (p : Int) : (∃ e : Int, normS s p = (⟨#[]⟩, 0, e) ∧ e ≠ 0 ∧ (e = 2 ∨ e = 4)) ∨ ∃ l q, normS s p = (S l, q, 0) ∧ InForm l q ∧ l.length ≤ 2000 ∧ -7000 ≤ q ∧ q ≤ 5000 ∧ AllD (L s) ∧ (l, q) = decOf (val (L s)) (p - (L s).length) := by
  unfold normS
  by_cases h : s.size > 2000
  · rw [if_pos h]; exact .inl ⟨2, rfl, by omega, .inl rfl⟩
  · rw [if_neg h]
    unfold normTail
    by_cases h1 : (L s).all isD = true
    · rw [if_pos h1]
      by_cases h2 : p < -5000
      · rw [if_pos h2]; exact .inl ⟨2, rfl, by omega, .inl rfl⟩
      · rw [if_neg h2]
        by_cases h3 : p > 5000
        · rw [if_pos h3]; exact .inl ⟨2, rfl, by omega, .inl rfl⟩
        · rw [if_neg h3]
          have hall : AllD (L s) := fun c hc => (isD_iff c).1 (List.all_eq_true.1 h1 c hc)
          have hf := formL_eq hall p
          have hin := inForm_decOf (val (L s)) (p - (L s).length)
          rw [← hf] at hin
          have hl := length_dz (L s)
          have hl2 := length_rz (dz (L s))
          rw [← size_L] at hl
          refine .inr ⟨(formL (L s) p).1, (formL (L s) p).2, rfl, hin, ?_, ?_, ?_, hall, by rw [← hf]⟩
          · unfold formL; split
            · simp
            · show (rz (dz (L s))).length ≤ 2000
              omega
          · unfold formL; split
            · show (-7000 : Int) ≤ 0
              omega
            · show (-7000 : Int) ≤ p - _
              rw [← size_L]
              omega
          · unfold formL; split
            · show (0 : Int) ≤ 5000
              omega
            · show p - _ ≤ (5000 : Int)
              rw [← size_L]
              omega
    · rw [if_neg h1]; exact .inl ⟨4, rfl, by omega, .inr rfl⟩
theorem val_digit {l : List UInt8} (h : AllD l) (i : Nat) (hi : i < l.length) : val l / 10 ^ (l.length - 1 - i) % 10 = dig l[i] := by
  have e : l = l.take (i + 1) ++ l.drop (i + 1) := (List.take_append_drop _ _).symm
  have e2 : l.take (i + 1) = l.take i ++ [l[i]] := List.take_succ_eq_append_getElem hi
  have hv : val l = (10 * val (l.take i) + dig l[i]) * 10 ^ (l.length - 1 - i) + val (l.drop (i + 1)) := by
    have hl : (l.drop (i + 1)).length = l.length - 1 - i := by rw [List.length_drop]; omega
    rw [← hl, ← val_snoc, ← e2, ← val_append, ← e]
  have hlt : val (l.drop (i + 1)) < 10 ^ (l.length - 1 - i) := by
    have := val_lt (h.drop (i + 1))
    rw [List.length_drop] at this
    have e3 : l.length - (i + 1) = l.length - 1 - i := by omega
    rw [e3] at this
    exact this
  have hd : dig l[i] < 10 := by have := h l[i] (List.getElem_mem hi); unfold dig; omega
  rw [hv, Nat.mul_comm, Nat.mul_add_div (Nat.pow_pos (by omega)), Nat.div_eq_of_lt hlt]
  omega
theorem digit_eq {l : List UInt8} {p E x : Int} (h : AllD l) (hE : E ≤ p - l.length) (hx : E ≤ x) (hb : l.length ≤ 100000 ∧ -100000 ≤ p ∧ p ≤ 100000 ∧ -100000 ≤ x ∧ x ≤ 100000) :
    platenref04_digit.f (S l) p x = some ((sv l p E / 10 ^ (x - E).toNat % 10 : Nat) : Int) := by
  unfold platenref04_digit.f
  have hw : wrap64 (wrap64 (p - 1) - x) = p - 1 - x := by rw [wrap_id (x := p - 1) (by omega) (by omega), wrap_id (by omega) (by omega)]
  rw [hw, size_S]
  by_cases h1 : p - 1 - x < 0
  · rw [if_pos h1]
    have hlt := sv_lt h hE
    have : 10 ^ (p - E).toNat ≤ 10 ^ (x - E).toNat := Nat.pow_le_pow_right (by omega) (by omega)
    rw [Nat.div_eq_of_lt (by omega)]
    rfl
  · rw [if_neg h1]
    by_cases h2 : p - 1 - x ≥ (l.length : Int)
    · rw [if_pos h2]
      unfold sv
      have e : (p - l.length - E).toNat = (p - l.length - x).toNat + (x - E).toNat := by omega
      rw [e, Nat.pow_add, ← Nat.mul_assoc, Nat.mul_div_cancel _ (Nat.pow_pos (by omega))]
      obtain ⟨j, hj⟩ : ∃ j, (p - l.length - x).toNat = j + 1 := ⟨(p - l.length - x).toNat - 1, by omega⟩
      rw [hj, Nat.pow_succ, ← Nat.mul_assoc, Nat.mul_mod_left]
      rfl
    · obtain ⟨i, hi⟩ : ∃ i : Nat, p - 1 - x = (i : Int) := ⟨(p - 1 - x).toNat, by omega⟩
      have hil : i < l.length := by omega
      rw [if_neg h2, hi, if_pos (by omega), if_pos (by omega), bt_L (S l) i (by rw [size_S]; exact hil)]
      simp only [L_S]
      have hd := h l[i] (List.getElem_mem hil)
      have hv := val_digit h i hil
      have e : sv l p E / 10 ^ (x - E).toNat = val l / 10 ^ (l.length - 1 - i) := by
        unfold sv
        have e1 : (x - E).toNat = (l.length - 1 - i) + (p - l.length - E).toNat := by omega
        rw [e1, Nat.pow_add, Nat.mul_comm (10 ^ (l.length - 1 - i)), ← Nat.div_div_eq_div_mul, Nat.mul_div_cancel _ (Nat.pow_pos (by omega))]
      rw [e, hv]
      unfold dig at *
      congr 1
      omega
theorem top_digit {A B n : Nat} (hA : A < 10 ^ (n + 1)) (hB : B < 10 ^ (n + 1)) : cmpN A B = (if A / 10 ^ n % 10 < B / 10 ^ n % 10 then -1 else if B / 10 ^ n % 10 < A / 10 ^ n % 10 then 1 else cmpN (A % 10 ^ n) (B % 10 ^ n)) := by
  have hp : 0 < 10 ^ n := Nat.pow_pos (by omega)
  rw [Nat.pow_succ] at hA hB
  have a1 : A / 10 ^ n < 10 := Nat.div_lt_of_lt_mul hA
  have b1 : B / 10 ^ n < 10 := Nat.div_lt_of_lt_mul hB
  rw [Nat.mod_eq_of_lt a1, Nat.mod_eq_of_lt b1]
  have ea := Nat.div_add_mod A (10 ^ n)
  have eb := Nat.div_add_mod B (10 ^ n)
  have ma := Nat.mod_lt A hp
  have mb := Nat.mod_lt B hp
  have less : ∀ x y r s M : Nat, x < y → r < M → M * x + r < M * y + s := by
    intro x y r s M hxy hr
    have : M * (x + 1) ≤ M * y := Nat.mul_le_mul_left _ hxy
    rw [Nat.mul_add] at this
    omega
  by_cases h1 : A / 10 ^ n < B / 10 ^ n
  · rw [if_pos h1, cmpN_lt]
    rw [← ea, ← eb]
    exact less _ _ _ _ _ h1 ma
  · rw [if_neg h1]
    by_cases h2 : B / 10 ^ n < A / 10 ^ n
    · rw [if_pos h2, cmpN_gt]
      rw [← ea, ← eb]
      exact less _ _ _ _ _ h2 mb
    · rw [if_neg h2]
      have e : A / 10 ^ n = B / 10 ^ n := by omega
      rw [e] at ea
      rw [← cmpN_add (10 ^ n * (B / 10 ^ n)) (A % 10 ^ n), ea, eb]
theorem mod_digit (A n j : Nat) (h : j < n) : A % 10 ^ n / 10 ^ j % 10 = A / 10 ^ j % 10 := by
  obtain ⟨d, rfl⟩ : ∃ d, n = j + 1 + d := ⟨n - (j + 1), by omega⟩
  have e : 10 ^ (j + 1 + d) = 10 ^ j * (10 * 10 ^ d) := by rw [Nat.pow_add, Nat.pow_succ, Nat.mul_assoc]
  rw [e, Nat.mod_mul_right_div_self, Nat.mod_mul_right_mod]
theorem rcmp_l0 {a b : List UInt8} {p q E : Int} (ha : AllD a) (hb : AllD b) (h1 : E ≤ p - a.length) (h2 : E ≤ q - b.length)
    (hba : a.length ≤ 100000 ∧ -50000 ≤ p ∧ p ≤ 50000) (hbb : b.length ≤ 100000 ∧ -50000 ≤ q ∧ q ≤ 50000) (hE : -50000 ≤ E) :
    ∀ (n : Nat), E + n ≤ 50000 → Ev (fun k => platenref04_Compare.l0 k E (E + n - 1) (S a) p (S b) q) (cmpN (sv a p E % 10 ^ n) (sv b q E % 10 ^ n)) := by
  intro n
  induction n with
  | zero =>
    intro _
    refine Ev.step (f := fun _ => some (0 : Int)) (fun k => ?_) ?_
    · simp only [platenref04_Compare.l0]
      rw [if_neg (by omega)]
    · rw [Nat.pow_zero, Nat.mod_one, Nat.mod_one]
      exact Ev.now _
  | succ n ih =>
    intro hn
    have d1 := digit_eq (x := E + n) ha h1 (by omega) (by omega)
    have d2 := digit_eq (x := E + n) hb h2 (by omega) (by omega)
    have en : (E + n - E).toNat = n := by omega
    rw [en] at d1 d2
    have ht := top_digit (Nat.mod_lt (sv a p E) (Nat.pow_pos (n := n + 1) (show 0 < 10 by omega))) (Nat.mod_lt (sv b q E) (Nat.pow_pos (n := n + 1) (show 0 < 10 by omega)))
    rw [mod_digit _ _ _ (by omega), mod_digit _ _ _ (by omega), Nat.pow_succ, Nat.mod_mul_right_mod, Nat.mod_mul_right_mod, ← Nat.pow_succ] at ht
    rw [ht]
    have ex : E + ((n + 1 : Nat) : Int) - 1 = E + n := by omega
    rw [ex]
    have hbody : ∀ k, platenref04_Compare.l0 (k + 1) E (E + n) (S a) p (S b) q = (if sv a p E / 10 ^ n % 10 < sv b q E / 10 ^ n % 10 then some (-1) else if sv b q E / 10 ^ n % 10 < sv a p E / 10 ^ n % 10 then some 1 else platenref04_Compare.l0 k E (E + n - 1) (S a) p (S b) q) := by
      intro k
      simp only [platenref04_Compare.l0]
      rw [if_pos (by omega), d1, Option.bind_some, d2, Option.bind_some, wrap_id (by omega) (by omega)]
      by_cases c1 : sv a p E / 10 ^ n % 10 < sv b q E / 10 ^ n % 10
      · rw [if_pos c1, if_pos (by omega)]
      · rw [if_neg c1, if_neg (by omega)]
        by_cases c2 : sv b q E / 10 ^ n % 10 < sv a p E / 10 ^ n % 10
        · rw [if_pos c2, if_pos (by omega)]
        · rw [if_neg c2, if_neg (by omega)]
    refine Ev.step hbody ?_
    by_cases c1 : sv a p E / 10 ^ n % 10 < sv b q E / 10 ^ n % 10
    · rw [if_pos c1]
      exact Ev.congr (fun k => by rw [if_pos c1]) (Ev.now _)
    · rw [if_neg c1]
      by_cases c2 : sv b q E / 10 ^ n % 10 < sv a p E / 10 ^ n % 10
      · rw [if_pos c2]
        exact Ev.congr (fun k => by rw [if_neg c1, if_pos c2]) (Ev.now _)
      · rw [if_neg c2]
        exact Ev.congr (fun k => by rw [if_neg c1, if_neg c2]) (ih (by omega))
theorem low_eq (l : List UInt8) (p : Int) (hb : l.length ≤ 100000 ∧ -100000 ≤ p ∧ p ≤ 100000) : platenref04_low.f (S l) p = some (p - l.length) := by
  unfold platenref04_low.f
  rw [size_S, wrap_id (by omega) (by omega)]
theorem mod_sv {l : List UInt8} (h : AllD l) {p E : Int} (hE : E ≤ p - l.length) (n : Nat) (hn : p - E ≤ n) : sv l p E % 10 ^ n = sv l p E := by
  have h1 := sv_lt h hE
  have : 10 ^ (p - E).toNat ≤ 10 ^ n := Nat.pow_le_pow_right (by omega) (by omega)
  exact Nat.mod_eq_of_lt (by omega)
theorem cmpD_nil_left {b : List UInt8} {q : Int} (hb : InForm b q) (hn : b ≠ []) (p : Int) : cmpD [] p b q = -1 := by
  unfold cmpD
  have h3 : 0 < sv b q (min (p - (([] : List UInt8).length : Int)) (q - b.length)) := Nat.mul_pos (Nat.pos_of_ne_zero (val_pos hb.1 hb.2.1 hn)) (Nat.pow_pos (by omega))
  rw [cmpN_lt]
  simpa [sv, val_nil] using h3
theorem cmpD_nil_right {a : List UInt8} {p : Int} (ha : InForm a p) (hn : a ≠ []) (q : Int) : cmpD a p [] q = 1 := by
  unfold cmpD
  have h3 : 0 < sv a p (min (p - (a.length : Int)) (q - (([] : List UInt8).length : Int))) := Nat.mul_pos (Nat.pos_of_ne_zero (val_pos ha.1 ha.2.1 hn)) (Nat.pow_pos (by omega))
  rw [cmpN_gt]
  simpa [sv, val_nil] using h3
theorem rcmp_eq {a b : List UInt8} {p q : Int} (ha : InForm a p) (hb : InForm b q) (hba : a.length ≤ 10000 ∧ -20000 ≤ p ∧ p ≤ 20000) (hbb : b.length ≤ 10000 ∧ -20000 ≤ q ∧ q ≤ 20000) :
    Ev (fun k => platenref04_Compare.f k (S a) p (S b) q) (cmpD a p b q) := by
  unfold platenref04_Compare.f
  rw [toList_L, L_S, toList_L, L_S]
  by_cases h1 : a = []
  · refine Ev.congr (f := fun k => platenref04_Compare.j0 k (b == []) (S a) p (S b) q) (fun k => by rw [if_pos h1]) ?_
    by_cases h2 : b = []
    · refine Ev.step (f := fun _ => some (cmpD a p b q)) (fun k => ?_) (Ev.now _)
      simp only [platenref04_Compare.j0]
      rw [if_pos (by rw [h2]; rfl), h1, h2]
      unfold cmpD
      simp [sv, val_nil, cmpN]
    · refine Ev.step (f := fun _ => some (cmpD a p b q)) (fun k => ?_) (Ev.now _)
      simp only [platenref04_Compare.j0]
      rw [if_neg (by simpa using h2), toList_L, L_S, if_pos h1, h1, cmpD_nil_left hb h2]
  · refine Ev.congr (f := fun k => platenref04_Compare.j0 k false (S a) p (S b) q) (fun k => by rw [if_neg h1]) ?_
    by_cases h2 : b = []
    · refine Ev.step (f := fun _ => some (cmpD a p b q)) (fun k => ?_) (Ev.now _)
      simp only [platenref04_Compare.j0]
      rw [if_neg (by simp), toList_L, L_S, if_neg h1, toList_L, L_S, if_pos h2, h2, cmpD_nil_right ha h1]
    · have key : ∀ (E : Int), E = min (p - (a.length : Int)) (q - b.length) → ∀ top : Int, top = max p q → Ev (fun k => platenref04_Compare.l0 k E top (S a) p (S b) q) (cmpD a p b q) := by
        intro E hE top ht
        have h3 := rcmp_l0 (E := E) (p := p) (q := q) ha.1 hb.1 (by omega) (by omega) (by omega) (by omega) (by omega) (top - E + 1).toNat (by omega)
        have e : E + ((top - E + 1).toNat : Int) - 1 = top := by omega
        rw [e, mod_sv (E := E) (p := p) ha.1 (by omega) _ (by omega), mod_sv (E := E) (p := q) hb.1 (by omega) _ (by omega), ← cmpD_at (E := E) (by omega) (by omega)] at h3
        exact h3
      have key2 : ∀ top : Int, top = max p q → Ev (fun k => platenref04_Compare.j1 k top (p - a.length) (S a) p (S b) q) (cmpD a p b q) := by
        intro top ht
        by_cases h4 : q - (b.length : Int) < p - a.length
        · refine Ev.step (f := fun k => platenref04_Compare.j2 k top (q - b.length) (S a) p (S b) q) (fun k => ?_) (Ev.step (fun k => rfl) (key _ (by omega) top ht))
          simp only [platenref04_Compare.j1]
          rw [low_eq b q (by omega), Option.bind_some, if_pos h4, Option.bind_some]
        · refine Ev.step (f := fun k => platenref04_Compare.j2 k top (p - a.length) (S a) p (S b) q) (fun k => ?_) (Ev.step (fun k => rfl) (key _ (by omega) top ht))
          simp only [platenref04_Compare.j1]
          rw [low_eq b q (by omega), Option.bind_some, if_neg h4]
      by_cases h5 : q > p
      · refine Ev.step (f := fun k => platenref04_Compare.j1 k q (p - a.length) (S a) p (S b) q) (fun k => ?_) (key2 q (by omega))
        simp only [platenref04_Compare.j0]
        rw [if_neg (by simp), toList_L, L_S, if_neg h1, toList_L, L_S, if_neg h2, low_eq a p (by omega), Option.bind_some, if_pos h5]
      · refine Ev.step (f := fun k => platenref04_Compare.j1 k p (p - a.length) (S a) p (S b) q) (fun k => ?_) (key2 p (by omega))
        simp only [platenref04_Compare.j0]
        rw [if_neg (by simp), toList_L, L_S, if_neg h1, toList_L, L_S, if_neg h2, low_eq a p (by omega), Option.bind_some, if_neg h5]
end Go.Proofs.YtobidkjmgkmaoaaDoor.Pure
end
section
namespace Go.Proofs.YtobidkjmgkmaoaaDoor.Fn
open Go.RowKit Go.Proofs.YtobidkjmgkmaoaaDoorW.PrintWords Go.Proofs.YtobidkjmgkmaoaaDoorW.PrintLast Go.Proofs.YtobidkjmgkmaoaaDoorW.PrintMore
attribute [local go_sem] max2_int min2_int max_two min_two
set_option linter.unusedVariables false
set_option linter.unusedSimpArgs false
mutual
def bigdec_times.l0 : Nat → List Int → Int → Int → Int → Int → Option (List Int)
 | 0, _, _, _, _, _ => none
 | k + 1, x0, x1, x5, x9, x10 => if x10 < x9 then (if 0 ≤ x10 then (if x10 < (x0.length : Int) then (bigdec_times.l0 k (x0.set (x10 : Int).toNat (Int.tmod (IntKind.u64.wrap ((IntKind.u64.wrap ((rd x0 x10) * x1)) + x5)) 1000000000)) x1 (IntKind.u64.wrap (Int.tdiv (IntKind.u64.wrap ((IntKind.u64.wrap ((rd x0 x10) * x1)) + x5)) 1000000000)) x9 (wrap64 (x10 + 1))) else (none)) else (none)) else (bigdec_times.l1 k x0 x5)
def bigdec_times.l1 : Nat → List Int → Int → Option (List Int)
 | 0, _, _ => none
 | k + 1, x0, x5 => if x5 > 0 then (if x0.length < 17592186044416 then (bigdec_times.l1 k (x0 ++ [Int.tmod x5 1000000000]) (IntKind.u64.wrap (Int.tdiv x5 1000000000))) else (none)) else (some x0)
end
def bigdec_times.f (k : Nat) (l0 : List Int) (a1 : Int) : Option (List Int) := bigdec_times.l0 k l0 a1 0 (l0.length : Int) 0
theorem bigdec_times.mono_l : ∀ k, (∀ y0 y1 y2 y3 y4, LeO (bigdec_times.l0 k y0 y1 y2 y3 y4) (bigdec_times.l0 (k + 1) y0 y1 y2 y3 y4)) ∧ (∀ y0 y1, LeO (bigdec_times.l1 k y0 y1) (bigdec_times.l1 (k + 1) y0 y1))
 | 0 => ⟨fun _ _ _ _ _ r h => by simp [bigdec_times.l0] at h, fun _ _ r h => by simp [bigdec_times.l1] at h⟩
 | k + 1 => by
  obtain ⟨ih0, ih1⟩ := bigdec_times.mono_l k
  refine ⟨?_, ?_⟩
  ·intro y0 y1 y2 y3 y4
   unfold bigdec_times.l0
   repeat' first
   | (with_reducible exact ih0 _ _ _ _ _)
   | (with_reducible exact ih1 _ _)
   | (with_reducible exact LeO.refl _)
   | (with_reducible exact LeO.none _)
   | (with_reducible refine LeO.ite ?_ ?_)
   | (with_reducible refine LeO.bind ?_ (fun _ => ?_))
   | exact ih0 _ _ _ _ _
   | exact ih1 _ _
   | exact LeO.none _
   | refine LeO.ite ?_ ?_
   | refine LeO.bind ?_ (fun _ => ?_)
  ·intro y0 y1
   unfold bigdec_times.l1
   repeat' first
   | (with_reducible exact ih0 _ _ _ _ _)
   | (with_reducible exact ih1 _ _)
   | (with_reducible exact LeO.refl _)
   | (with_reducible exact LeO.none _)
   | (with_reducible refine LeO.ite ?_ ?_)
   | (with_reducible refine LeO.bind ?_ (fun _ => ?_))
   | exact ih0 _ _ _ _ _
   | exact ih1 _ _
   | exact LeO.none _
   | refine LeO.ite ?_ ?_
   | refine LeO.bind ?_ (fun _ => ?_)
theorem bigdec_times.mono : ∀ a0 a1 k, LeO (bigdec_times.f k a0 a1) (bigdec_times.f (k + 1) a0 a1) := by
 intro a0 a1 k
 obtain ⟨ih0, ih1⟩ := bigdec_times.mono_l k
 unfold bigdec_times.f
 repeat' first
   | (with_reducible exact ih0 _ _ _ _ _)
   | (with_reducible exact ih1 _ _)
   | (with_reducible exact LeO.refl _)
   | (with_reducible exact LeO.none _)
   | (with_reducible refine LeO.ite ?_ ?_)
   | (with_reducible refine LeO.bind ?_ (fun _ => ?_))
   | exact ih0 _ _ _ _ _
   | exact ih1 _ _
   | exact LeO.none _
   | refine LeO.ite ?_ ?_
   | refine LeO.bind ?_ (fun _ => ?_)
set_option maxHeartbeats 8000000 in
set_option maxRecDepth 100000 in
theorem bigdec_times.calls (k : Nat) (P0_ : Nat → Prop) (u9000_ : Value) (l0 : List Int) (a1 : Int) (r : List Int) (w0 w : World) (hB : Below w0.heap.size w0 w) (ho0 : Kd.R (Kd.int .u64) 31 w w0.heap.size P0_ u9000_ l0) (h : bigdec_times.f k l0 a1 = some r) :
  Calls Tryd.prog 29 #[u9000_, .int .u64 a1] w fun e w' => ∃ v0_ : Value, e = .returned (v0_) ∧ Kd.R (Kd.int .u64) 31 w' w0.heap.size (fun k_ => (P0_ k_ ∨ w.heap.size ≤ k_)) v0_ r ∧ Below w0.heap.size w0 w' ∧ Kept w w' (fun k_ => P0_ k_) := by
 have HO0 := Aside0.mk (show Kd.R (Kd.int .u64) 31 w w0.heap.size (fun k_ => (P0_ k_ ∨ w.heap.size ≤ k_)) u9000_ l0 from Kd.R_mono ho0 (fun k_ hk => (.inl hk)))
 have HK := Aside0.mk (Kept.refl w (fun k_ => P0_ k_))
 have HW0 := Aside0.mk hB.size
 have HB := Aside0.mk hB
 clear hB
 have H : (bigdec_times.l0 k l0 a1 0 (l0.length : Int) 0) = some r := h
 clear h
 have H' := Aside0.mk H
 clear H
 obtain ⟨Ao3, co3, eo3⟩ := Kd.R_slice HO0.out
 subst eo3
 go_enter Tryd.func29, Tryd.ntmps29
 go_wp2
 go_loopg [5, 10] k (fun kq v5 v10 w' => ∃ (x0_1 : List Int) (x5_1 : Int) (x10_1 : Int), v5 = .int .u64 x5_1 ∧ v10 = .int .i64 x10_1 ∧ Aside0 (bigdec_times.l0 kq x0_1 a1 x5_1 (l0.length : Int) x10_1 = some r) ∧ Aside0 (kq ≤ k) ∧ Aside0 (Kd.R (Kd.int .u64) 31 w' w0.heap.size (fun k_ => (P0_ k_ ∨ w.heap.size ≤ k_)) (.slice Ao3 l0.length co3) x0_1) ∧ Aside0 (Kept w w' (fun k_ => P0_ k_)) ∧ Aside0 (Below w0.heap.size w0 w'))
 case atStart => exact ⟨(l0), (0), (0), (by first | rfl | (simp; done) | (simp [*]; done)), (by first | rfl | (simp; done) | (simp [*]; done)), H', ⟨Nat.le_refl _⟩, ⟨by (with_reducible repeat (first | apply Kd.R_alloc | apply Kd.R_drewN | apply Kd.R_drew)); exact HO0.out⟩, ⟨by repeat (first | (with_reducible first | exact HK.out | apply Kept.alloc | apply Kept.drewN | apply Kept.drew) | exact HK.out)⟩, ⟨by repeat (first | (with_reducible first | exact HB.out | apply below_alloc | apply pw_below_drewN | apply below_drew1) | exact HB.out)⟩⟩
 case round =>
  clear H'
  obtain ⟨x0_1, x5_1, x10_1, rfl, rfl, HA, HK1, HO_0, HK, HB⟩ := hrel
  have hl0_1 := (Kd.R_reads' HO_0.out).1
  rw [hl0_1] at HO_0
  (try simp only [hl0_1])
  cases gk with
  | zero => exact absurd HA.out (by simp [bigdec_times.l0])
  | succ k1 =>
   have H := HA.out
   clear HA
   simp only [bigdec_times.l0] at H
   by_cases c4 : x10_1 < (l0.length : Int)
   ·rw [if_pos c4] at H
    have c4b0 : decide (x10_1 < (l0.length : Int)) = true := decide_eq_true c4
    (try (have c4b9 := c4b0; (first | rw [hl0_1] at c4b9); skip))
    clear c4
    by_cases c5 : 0 ≤ x10_1
    ·rw [if_pos c5] at H
     have c5b0 : decide (0 ≤ x10_1) = true := decide_eq_true c5
     clear c5
     by_cases c6 : x10_1 < (x0_1.length : Int)
     ·rw [if_pos c6] at H
      have c6b0 : decide (x10_1 < (x0_1.length : Int)) = true := decide_eq_true c6
      (try (have c6b9 := c6b0; (first | rw [hl0_1] at c6b9); skip))
      clear c6
      obtain ⟨y121, hy121⟩ : ∃ y_ : List Int, y_ = (x0_1.set (x10_1 : Int).toNat (Int.tmod (IntKind.u64.wrap ((IntKind.u64.wrap ((rd x0_1 x10_1) * a1)) + x5_1)) 1000000000)) := ⟨_, rfl⟩
      replace H : (bigdec_times.l0 k1 y121 a1 (IntKind.u64.wrap (Int.tdiv (IntKind.u64.wrap ((IntKind.u64.wrap ((rd x0_1 x10_1) * a1)) + x5_1)) 1000000000)) (l0.length : Int) (wrap64 (x10_1 + 1))) = some r := by first | (rw [hy121]; with_reducible exact H) | (have H2_ := (Option.bind_some _ _).symm.trans H; rw [hy121]; with_reducible exact H2_) | (have H2_ := (Option.bind_some _ _).symm.trans H; with_reducible exact H2_) | with_reducible exact H | (rw [hy121]; exact H) | exact H
      have Ny121 := Aside0.mk hy121
      clear hy121
      have H' := Aside0.mk H
      clear H
      have p120 : 0 ≤ (x10_1 : Int) := of_decide_eq_true (by first | (with_reducible assumption) | assumption)
      have q120 : x10_1 < (x0_1.length : Int) := of_decide_eq_true (by first | (with_reducible assumption) | assumption)
      obtain ⟨ad120, e120, hx120_0⟩ := Kd.at_int (Kd.R_reads' HO_0.out).2.2 x10_1 p120 q120
      cases e120
      replace p120 := eq_true p120
      replace q120 := eq_true q120
      have p7 : 0 ≤ (x10_1 : Int) := of_decide_eq_true (by first | (with_reducible assumption) | assumption)
      have q7 : (x10_1 : Int) < ((x0_1.length : Int) : Int) := of_decide_eq_true (by first | (with_reducible assumption) | assumption)
      obtain ⟨go7, co7, eo7, gb7, gl7, cl7, HG7⟩ := Kd.R_form HO_0.out (by omega)
      (first | cases eo7 | (injection eo7 with ea_ en_ ec_; (first | subst ea_ | (injection ea_ with ea_; subst ea_)); subst ec_; clear en_))
      have GB7 := Aside0.mk gb7
      have GG7 := Aside0.mk HG7
      clear gb7 gl7 HG7
      have HMgo7 := Aside0.mk (show (P0_ go7 ∨ w.heap.size ≤ go7) from (HO_0.out.1 _ rfl))
      (first | simp only [add_plain] at hx120_0 | skip)
      obtain ⟨hx7_0, hf7_0⟩ := Kd.R_celln 0 HO_0.out (x10_1 : Int) p7 q7
      replace p7 := eq_true p7
      replace q7 := eq_true q7
      have HP8 := Kd.R_putg HO_0.out (x10_1 : Int) (Int.tmod (IntKind.u64.wrap ((IntKind.u64.wrap ((rd x0_1 x10_1) * a1)) + x5_1)) 1000000000)
      go_wp2_with (first | ((with_reducible refine gate_store (t := 31) (p := 26) rfl ?_); refine store_event (t := 31) (p := 26) (v := ?vo_w9) (w1 := (wr.setCell ⟨go7, (x10_1 : Int).toNat, none⟩ (.int .u64 (Int.tmod (IntKind.u64.wrap ((IntKind.u64.wrap ((rd x0_1 x10_1) * a1)) + x5_1)) 1000000000)))) ?hg ?ho ?hn ?hr ?_; (case ho => rfl); (case hg => rfl); (case hn => rfl); (case hr => first | (go_simp; done) | (go_simp; rfl)); intro w9 hw; have hg : wr.grownBy w9 (some go7) := (by rw [hw]; exact HP8.2); have hp_ : Kd.R (Kd.int .u64) 31 w9 w0.heap.size (fun k_ => (P0_ k_ ∨ w.heap.size ≤ k_)) (.slice (some ⟨go7, 0, none⟩) x0_1.length co3) y121 := (by rw [hw, Ny121.out]; exact HP8.1); clear HP8; have n0_ := Aside0.mk (hp_); have n1_ := Aside0.mk ((by rw [hw]; exact below_set (HB.out) GB7.out : Below w0.heap.size w0 w9)); have n2_ := Aside0.mk (Kept.of_grown (S := (fun k_ => P0_ k_)) hg (by repeat (first | (with_reducible first | exact HK.out | apply Kept.alloc | apply Kept.drewN | apply Kept.drew) | exact HK.out)) (fun k_ e_ => (HO_0.out.1 k_ e_))); clear HO_0; clear HB; clear HK; have HO_0 := n0_; have HB := n1_; have HK := n2_; clear n0_ n1_ n2_; clear hg hw hp_))
      (try simp only [← hl0_1])
      go_roundg k1
      case measure => have := HK1.out; omega
      case rel => exact ⟨(y121), (IntKind.u64.wrap (Int.tdiv (IntKind.u64.wrap ((IntKind.u64.wrap ((rd x0_1 x10_1) * a1)) + x5_1)) 1000000000)), (wrap64 (x10_1 + 1)), (by first | rfl | (simp; done) | (simp [*]; done)), (by first | rfl | (simp; done) | (simp [*]; done)), H', ⟨by have := HK1.out; omega⟩, ⟨by (try simp only [hl0_1]); (with_reducible repeat (first | apply Kd.R_alloc | apply Kd.R_drewN | apply Kd.R_drew)); exact HO_0.out⟩, ⟨by repeat (first | (with_reducible first | exact HK.out | apply Kept.alloc | apply Kept.drewN | apply Kept.drew) | exact HK.out)⟩, ⟨by repeat (first | (with_reducible first | exact HB.out | apply below_alloc | apply pw_below_drewN | apply below_drew1) | exact HB.out)⟩⟩
     ·rw [if_neg c6] at H
      exact absurd H (by simp)
    ·rw [if_neg c5] at H
     exact absurd H (by simp)
   ·rw [if_neg c4] at H
    have c4b0 : decide (x10_1 < (l0.length : Int)) = false := decide_eq_false c4
    (try (have c4b9 := c4b0; (first | rw [hl0_1] at c4b9); skip))
    clear c4
    have H' := Aside0.mk H
    clear H
    go_wp2
    go_loopg [0, 5] k1 (fun kq v0 v5 w' => ∃ (x0_2 : List Int) (x5_2 : Int), v5 = .int .u64 x5_2 ∧ Aside0 (bigdec_times.l1 kq x0_2 x5_2 = some r) ∧ Aside0 (kq ≤ k1) ∧ Aside0 (Kd.R (Kd.int .u64) 31 w' w0.heap.size (fun k_ => (P0_ k_ ∨ w.heap.size ≤ k_)) v0 x0_2) ∧ Aside0 (Kept w w' (fun k_ => P0_ k_)) ∧ Aside0 (Below w0.heap.size w0 w'))
    case atStart => exact ⟨(x0_1), (x5_1), (by first | rfl | (simp; done) | (simp [*]; done)), H', ⟨Nat.le_refl _⟩, ⟨by (try simp only [hl0_1]); (with_reducible repeat (first | apply Kd.R_alloc | apply Kd.R_drewN | apply Kd.R_drew)); exact HO_0.out⟩, ⟨by repeat (first | (with_reducible first | exact HK.out | apply Kept.alloc | apply Kept.drewN | apply Kept.drew) | exact HK.out)⟩, ⟨by repeat (first | (with_reducible first | exact HB.out | apply below_alloc | apply pw_below_drewN | apply below_drew1) | exact HB.out)⟩⟩
    case round =>
     clear H'
     try clear c4
     try clear c4b0
     try clear c5
     try clear c5b0
     try clear c6
     try clear c6b0
     try clear p7
     try clear q7
     try clear hx120_0
     try clear hx7_0
     try clear p120
     try clear p7
     try clear q120
     try clear q7
     obtain ⟨x0_2, x5_2, rfl, HA, HK2, HO_0, HK, HB⟩ := hrel
     cases gk with
     | zero => exact absurd HA.out (by simp [bigdec_times.l1])
     | succ k2 =>
      have H := HA.out
      clear HA
      simp only [bigdec_times.l1] at H
      by_cases c10 : x5_2 > 0
      ·rw [if_pos c10] at H
       have c10b0 : decide (0 < x5_2) = true := decide_eq_true c10
       clear c10
       by_cases c11 : x0_2.length < 17592186044416
       ·rw [if_pos c11] at H
        have LMc11 := Aside0.mk c11
        clear c11
        obtain ⟨y122, hy122⟩ : ∃ y_ : List Int, y_ = (x0_2 ++ [Int.tmod x5_2 1000000000]) := ⟨_, rfl⟩
        replace H : (bigdec_times.l1 k2 y122 (IntKind.u64.wrap (Int.tdiv x5_2 1000000000))) = some r := by first | (rw [hy122]; with_reducible exact H) | (have H2_ := (Option.bind_some _ _).symm.trans H; rw [hy122]; with_reducible exact H2_) | (have H2_ := (Option.bind_some _ _).symm.trans H; with_reducible exact H2_) | with_reducible exact H | (rw [hy122]; exact H) | exact H
        have Ny122 := Aside0.mk hy122
        clear hy122
        have H' := Aside0.mk H
        clear H
        go_wp2_with (first | ((with_reducible refine gate_builtin (b := .append) (xs := #[.tmp 30, .tmp 33]) rfl ?_); at_builtin; refine Kd.R_append (Kd.int .u64) (w0 := w0) w0.heap.size rfl (.tmp 30) (.tmp 33) 51 31 (.int .u64 0) 8 rfl Tryd.underlying51 info31 rfl (by decide) (by omega) u0 x0_2 (Int.tmod x5_2 1000000000) [.int .u64 (Int.tmod x5_2 1000000000)] (fun k_ => (P0_ k_ ∨ w.heap.size ≤ k_)) (fun _ => False) rfl rfl ?aP (fun _ hk => hk.elim) ?aF ?aO ?aB ?aS ?aL ?_; (case aP => exact rfl); (case aB => exact (by repeat (first | (with_reducible first | exact HB.out | apply below_alloc | apply pw_below_drewN | apply below_drew1) | exact HB.out))); (case aF => exact (fun k_ hk => (.inr (Nat.le_trans (by first | exact HK.out.1 | exact (show Kept w _ (fun k_ => P0_ k_) from by repeat (first | (with_reducible first | exact HK.out | apply Kept.alloc | apply Kept.drewN | apply Kept.drew) | exact HK.out)).1) hk)))); (case aO => exact (by (with_reducible repeat (first | apply Kd.R_alloc | apply Kd.R_drewN | apply Kd.R_drew)); exact HO_0.out)); (case aS => exact (below_size (by repeat (first | (with_reducible first | exact HB.out | apply below_alloc | apply pw_below_drewN | apply below_drew1) | exact HB.out)))); (case aL => have := LMc11.out; omega); intro v123 w12 ho hb hg hat; rw [← Ny122.out] at ho; have n0_ := Aside0.mk (hb); have n1_ := Aside0.mk (Kept.of_grown (S := (fun k_ => P0_ k_)) hg (by repeat (first | (with_reducible first | exact HK.out | apply Kept.alloc | apply Kept.drewN | apply Kept.drew) | exact HK.out)) (fun k_ e_ => (HO_0.out.1 k_ e_))); have n2_ := Aside0.mk (ho); clear HB; clear HK; clear HO_0; have HB := n0_; have HK := n1_; have HO124 := n2_; clear n0_ n1_ n2_; clear ho hb hg hat))
        go_roundg k2
        case measure => have := HK1.out; have := HK2.out; omega
        case rel => exact ⟨(y122), (IntKind.u64.wrap (Int.tdiv x5_2 1000000000)), (by first | rfl | (simp; done) | (simp [*]; done)), H', ⟨by have := HK1.out; have := HK2.out; omega⟩, ⟨by (try simp only [hl0_1]); (with_reducible repeat (first | apply Kd.R_alloc | apply Kd.R_drewN | apply Kd.R_drew)); exact HO124.out⟩, ⟨by repeat (first | (with_reducible first | exact HK.out | apply Kept.alloc | apply Kept.drewN | apply Kept.drew) | exact HK.out)⟩, ⟨by repeat (first | (with_reducible first | exact HB.out | apply below_alloc | apply pw_below_drewN | apply below_drew1) | exact HB.out)⟩⟩
       ·rw [if_neg c11] at H
        exact absurd H (by simp)
      ·rw [if_neg c10] at H
       have c10b0 : decide (0 < x5_2) = false := decide_eq_false c10
       clear c10
       obtain rfl := Option.some.inj H
       go_wp2
       go_ret
       exact ⟨_, by first | rfl | (simp [errW_none, errW_some] <;> rfl) | (simp [*, errW_none, errW_some] <;> rfl), by (with_reducible repeat (first | apply Kd.R_alloc | apply Kd.R_drewN | apply Kd.R_drew)); exact HO_0.out, by repeat (first | (with_reducible first | exact HB.out | apply below_alloc | apply pw_below_drewN | apply below_drew1) | exact HB.out), by repeat (first | (with_reducible first | exact HK.out | apply Kept.alloc | apply Kept.drewN | apply Kept.drew) | exact HK.out)⟩
end Go.Proofs.YtobidkjmgkmaoaaDoor.Fn
end
section
namespace Go.Proofs.YtobidkjmgkmaoaaDoor.Fn
open Go.RowKit Go.Proofs.YtobidkjmgkmaoaaDoorW.PrintWords Go.Proofs.YtobidkjmgkmaoaaDoorW.PrintLast Go.Proofs.YtobidkjmgkmaoaaDoorW.PrintMore
attribute [local go_sem] max2_int min2_int max_two min_two
set_option linter.unusedVariables false
set_option linter.unusedSimpArgs false
def bigdec_trimmed_uint64.l0 : Nat → List Int → Int → Option (List Int)
 | 0, _, _ => none
 | k + 1, x0, x3 => if (x0.length : Int) > 0 then (if 0 ≤ (wrap64 ((x0.length : Int) - 1)) then (if (wrap64 ((x0.length : Int) - 1)) < (x0.length : Int) then (if (rd x0 (wrap64 ((x0.length : Int) - 1))) = x3 then (if (wrap64 ((x0.length : Int) - 1)) ≤ (x0.length : Int) then (bigdec_trimmed_uint64.l0 k (x0.take ((wrap64 ((x0.length : Int) - 1)) : Int).toNat) x3) else (none)) else (some x0)) else (none)) else (none)) else (some x0)
def bigdec_trimmed_uint64.f (k : Nat) (l0 : List Int) : Option (List Int) := bigdec_trimmed_uint64.l0 k l0 0
theorem bigdec_trimmed_uint64.mono_l : ∀ k, (∀ y0 y1, LeO (bigdec_trimmed_uint64.l0 k y0 y1) (bigdec_trimmed_uint64.l0 (k + 1) y0 y1))
 | 0 => fun _ _ r h => by simp [bigdec_trimmed_uint64.l0] at h
 | k + 1 => by
  have ih0 := bigdec_trimmed_uint64.mono_l k
  ·intro y0 y1
   unfold bigdec_trimmed_uint64.l0
   repeat' first
   | (with_reducible exact ih0 _ _)
   | (with_reducible exact LeO.refl _)
   | (with_reducible exact LeO.none _)
   | (with_reducible refine LeO.ite ?_ ?_)
   | (with_reducible refine LeO.bind ?_ (fun _ => ?_))
   | exact ih0 _ _
   | exact LeO.none _
   | refine LeO.ite ?_ ?_
   | refine LeO.bind ?_ (fun _ => ?_)
theorem bigdec_trimmed_uint64.mono : ∀ a0 k, LeO (bigdec_trimmed_uint64.f k a0) (bigdec_trimmed_uint64.f (k + 1) a0) := by
 intro a0 k
 have ih0 := bigdec_trimmed_uint64.mono_l k
 unfold bigdec_trimmed_uint64.f
 repeat' first
   | (with_reducible exact ih0 _ _)
   | (with_reducible exact LeO.refl _)
   | (with_reducible exact LeO.none _)
   | (with_reducible refine LeO.ite ?_ ?_)
   | (with_reducible refine LeO.bind ?_ (fun _ => ?_))
   | exact ih0 _ _
   | exact LeO.none _
   | refine LeO.ite ?_ ?_
   | refine LeO.bind ?_ (fun _ => ?_)
set_option maxHeartbeats 8000000 in
set_option maxRecDepth 100000 in
theorem bigdec_trimmed_uint64.calls (k : Nat) (P0_ : Nat → Prop) (A0 : Option Addr) (c0 : Nat) (l0 : List Int) (r : List Int) (w : World) (hs0 : Kd.V (Kd.int .u64) 31 w w.heap.size (fun k_ => P0_ k_) (.slice A0 l0.length c0) l0) (h : bigdec_trimmed_uint64.f k l0 = some r) :
  Calls Tryd.prog 42 #[.slice A0 l0.length c0] w fun e w' => ∃ v0_ : Value, e = .returned (v0_) ∧ Kd.V (Kd.int .u64) 31 w' w.heap.size (fun k_ => (P0_ k_ ∨ w.heap.size ≤ k_)) v0_ r ∧ Below w.heap.size w w' := by
 have HO0 := Aside0.mk (show Kd.V (Kd.int .u64) 31 w w.heap.size (fun k_ => (P0_ k_ ∨ w.heap.size ≤ k_)) (.slice A0 l0.length c0) l0 from Kd.V_mono hs0 (fun k_ hk => .inl hk))
 have HB := Aside0.mk (Below.refl w.heap.size w)
 have H : (bigdec_trimmed_uint64.l0 k l0 0) = some r := h
 clear h
 have H' := Aside0.mk H
 clear H
 go_enter Tryd.func42, Tryd.ntmps42
 go_wp2
 go_loopg [0] k (fun kq v0 w' => ∃ (x0_1 : List Int), Aside0 (bigdec_trimmed_uint64.l0 kq x0_1 0 = some r) ∧ Aside0 (kq ≤ k) ∧ Aside0 (Kd.V (Kd.int .u64) 31 w' w.heap.size (fun k_ => (P0_ k_ ∨ w.heap.size ≤ k_)) v0 x0_1) ∧ Aside0 (Below w.heap.size w w'))
 case atStart => exact ⟨(l0), H', ⟨Nat.le_refl _⟩, ⟨by (with_reducible repeat (first | apply Kd.V_alloc | apply Kd.V_drewN | apply Kd.V_drew)); exact HO0.out⟩, ⟨by repeat (first | (with_reducible first | exact HB.out | apply below_alloc | apply pw_below_drewN | apply below_drew1) | exact HB.out)⟩⟩
 case round =>
  clear H'
  obtain ⟨x0_1, HA, HK1, HO_0, HB⟩ := hrel
  cases gk with
  | zero => exact absurd HA.out (by simp [bigdec_trimmed_uint64.l0])
  | succ k1 =>
   have H := HA.out
   clear HA
   simp only [bigdec_trimmed_uint64.l0] at H
   by_cases c2 : (x0_1.length : Int) > 0
   ·rw [if_pos c2] at H
    have c2b0 : decide (0 < (x0_1.length : Int)) = true := decide_eq_true c2
    have c2b1 : decide (0 < x0_1.length) = true := decide_eq_true (by omega)
    clear c2
    obtain ⟨ji3, hji3⟩ : ∃ j_ : Int, (wrap64 ((x0_1.length : Int) - 1)) = j_ := ⟨_, rfl⟩
    replace H : (if 0 ≤ (ji3) then (if (ji3) < (x0_1.length : Int) then (if (rd x0_1 (ji3)) = 0 then (if (ji3) ≤ (x0_1.length : Int) then (bigdec_trimmed_uint64.l0 k1 (x0_1.take ((ji3) : Int).toNat) 0) else (none)) else (some x0_1)) else (none)) else (none)) = some r := by first | (rw [hji3] at H; exact H) | (simp only [hji3] at H ⊢; exact H)
    have hji3w : (IntKind.i64.wrap ((x0_1.length : Int) - 1)) = ji3 := (i64_w _).trans hji3
    by_cases c4 : 0 ≤ (ji3)
    ·rw [if_pos c4] at H
     have c4b0 : decide (0 ≤ (ji3)) = true := decide_eq_true c4
     clear c4
     by_cases c5 : (ji3) < (x0_1.length : Int)
     ·rw [if_pos c5] at H
      have c5b0 : decide ((ji3) < (x0_1.length : Int)) = true := decide_eq_true c5
      clear c5
      by_cases c6 : (rd x0_1 (ji3)) = 0
      ·rw [if_pos c6] at H
       have c6b0 : ((rd x0_1 (ji3)) == 0) = true := beq_iff_eq.mpr c6
       have c6b1 : ((rd x0_1 (ji3)) != 0) = false := bne_eq_false_iff_eq.mpr c6
       clear c6
       have c7b0 := eq_true (of_decide_eq_true (by first | (with_reducible assumption) | assumption) : 0 ≤ (ji3))
       by_cases c8 : (ji3) ≤ (x0_1.length : Int)
       ·rw [if_pos c8] at H
        have c8b0 := eq_true c8
        have c8b1 : decide ((ji3) ≤ (x0_1.length : Int)) = true := decide_eq_true c8
        clear c8
        obtain ⟨y126, hy126⟩ : ∃ y_ : List Int, y_ = (x0_1.take ((ji3) : Int).toNat) := ⟨_, rfl⟩
        replace H : (bigdec_trimmed_uint64.l0 k1 y126 0) = some r := by first | (rw [hy126]; with_reducible exact H) | (have H2_ := (Option.bind_some _ _).symm.trans H; rw [hy126]; with_reducible exact H2_) | (have H2_ := (Option.bind_some _ _).symm.trans H; with_reducible exact H2_) | with_reducible exact H | (rw [hy126]; exact H) | exact H
        have Ny126 := Aside0.mk hy126
        clear hy126
        have H' := Aside0.mk H
        clear H
        obtain ⟨Ao9, co9, eo9⟩ := Kd.V_slice HO_0.out
        subst eo9
        have p125 : 0 ≤ ((ji3) : Int) := of_decide_eq_true (by first | (with_reducible assumption) | assumption)
        have q125 : (ji3) < (x0_1.length : Int) := of_decide_eq_true (by first | (with_reducible assumption) | assumption)
        obtain ⟨ad125, e125, hx125_0⟩ := Kd.at_int (Kd.V_reads' HO_0.out).2.2 (ji3) p125 q125
        cases e125
        replace p125 := eq_true p125
        replace q125 := eq_true q125
        have q10 : ((ji3) : Int) ≤ ((x0_1.length : Int) : Int) := of_decide_eq_true (by first | (with_reducible assumption) | assumption)
        obtain ⟨i010, hi010, _, hsz10, _⟩ := info_parts info31
        have hroom10 : x0_1.length ≤ co9 := (Kd.V_reads' HO_0.out).2.1
        have hC10 : Kd.F (Kd.int .u64) _ _ (some ad125) x0_1.length x0_1 := (Kd.V_at (base := w.heap.size) HO_0.out).2.2
        have hcut10 := cut_to (P := Tryd.prog) 51 31 .i64 Tryd.underlying51 hi010 (some ad125) x0_1.length co9 (ji3) (of_decide_eq_true (by first | (with_reducible assumption) | assumption)) q10 hroom10
        have hr10 := Kd.F_take (m := ((ji3) : Int).toNat) hC10 (by omega)
        have hy10 : y126.length = ((ji3) : Int).toNat := (by rw [Ny126.out, List.length_take]; omega)
        rw [← Ny126.out] at hr10
        rw [← hy10] at hcut10
        have HO130 := Aside0.mk (show Kd.V (Kd.int .u64) 31 _ w.heap.size _ (.slice (some ad125) y126.length co9) y126 from Kd.V_mk (by omega) hr10)
        have HC130 := Aside0.mk (show y126.length ≤ co9 from by omega)
        clear hr10 hC10 hroom10 hi010 hsz10
        have KY10 := Aside0.mk hy10
        clear hy10
        replace q10 := eq_true q10
        go_wp2
        go_roundg k1
        case measure => have := HK1.out; omega
        case rel => exact ⟨(y126), H', ⟨by have := HK1.out; omega⟩, ⟨by (with_reducible repeat (first | apply Kd.V_alloc | apply Kd.V_drewN | apply Kd.V_drew)); exact HO130.out⟩, ⟨by repeat (first | (with_reducible first | exact HB.out | apply below_alloc | apply pw_below_drewN | apply below_drew1) | exact HB.out)⟩⟩
       ·rw [if_neg c8] at H
        exact absurd H (by simp)
      ·rw [if_neg c6] at H
       have c6b0 : ((rd x0_1 (ji3)) == 0) = false := beq_eq_false_iff_ne.mpr c6
       have c6b1 : ((rd x0_1 (ji3)) != 0) = true := bne_iff_ne.mpr c6
       obtain rfl := Option.some.inj H
       obtain ⟨Ao11, co11, eo11⟩ := Kd.V_slice HO_0.out
       subst eo11
       have p125 : 0 ≤ ((ji3) : Int) := of_decide_eq_true (by first | (with_reducible assumption) | assumption)
       have q125 : (ji3) < (x0_1.length : Int) := of_decide_eq_true (by first | (with_reducible assumption) | assumption)
       obtain ⟨ad125, e125, hx125_0⟩ := Kd.at_int (Kd.V_reads' HO_0.out).2.2 (ji3) p125 q125
       cases e125
       replace p125 := eq_true p125
       replace q125 := eq_true q125
       go_wp2
       go_ret
       exact ⟨_, by first | rfl | (simp [errW_none, errW_some] <;> rfl) | (simp only [← hji3]; first | rfl | (simp [errW_none, errW_some] <;> rfl)) | (simp [*, errW_none, errW_some] <;> rfl), by (with_reducible repeat (first | apply Kd.V_alloc | apply Kd.V_drewN | apply Kd.V_drew)); exact HO_0.out, by repeat (first | (with_reducible first | exact HB.out | apply below_alloc | apply pw_below_drewN | apply below_drew1) | exact HB.out)⟩
     ·rw [if_neg c5] at H
      exact absurd H (by simp)
    ·rw [if_neg c4] at H
     exact absurd H (by simp)
   ·rw [if_neg c2] at H
    have c2b0 : decide (0 < (x0_1.length : Int)) = false := decide_eq_false c2
    have c2b1 : decide (0 < x0_1.length) = false := decide_eq_false (by omega)
    clear c2
    obtain rfl := Option.some.inj H
    obtain ⟨Ao12, co12, eo12⟩ := Kd.V_slice HO_0.out
    subst eo12
    go_wp2
    go_ret
    exact ⟨_, by first | rfl | (simp [errW_none, errW_some] <;> rfl) | (simp [*, errW_none, errW_some] <;> rfl), by (with_reducible repeat (first | apply Kd.V_alloc | apply Kd.V_drewN | apply Kd.V_drew)); exact HO_0.out, by repeat (first | (with_reducible first | exact HB.out | apply below_alloc | apply pw_below_drewN | apply below_drew1) | exact HB.out)⟩
end Go.Proofs.YtobidkjmgkmaoaaDoor.Fn
end
