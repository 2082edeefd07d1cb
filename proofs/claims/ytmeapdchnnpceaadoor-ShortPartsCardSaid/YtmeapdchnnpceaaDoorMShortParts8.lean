/- The law ShortParts: the walks through its functions and its plain law (part 8). Own texts and the kit's printed words for this seat, without what the law does not use: put together by merge.py (of this work). -/
import Derived.Test.YtmeapdchnnpceaaDoorMShortParts7
import Derived.Handy
section
namespace Go.Proofs.YtmeapdchnnpceaaDoor.Fn
open Go.RowKit Go.Proofs.YtmeapdchnnpceaaDoorW.PrintWords Go.Proofs.YtmeapdchnnpceaaDoorW.PrintLast Go.Proofs.YtmeapdchnnpceaaDoorW.PrintMore
attribute [local go_sem] min2_int min_two
set_option linter.unusedVariables false
set_option linter.unusedSimpArgs false
mutual
def short_Shortest.j0 : Nat → Int → Int → Int → Bool → Int → Int → Int → ByteArray → Int → ByteArray → Int → Bool → Option (ByteArray × Int × Int)
 | 0, _, _, _, _, _, _, _, _, _, _, _, _ => none
 | k + 1, x8, x9, x10, x79, x282000, x282001, x282002, x285000, x285001, x285002, x285003, x285004 => if x79 = true then ((bigdec_Exact.f k (IntKind.u64.wrap ((IntKind.u64.wrap (4 * x9)) - 1)) (wrap64 (x10 - 2))).bind fun bt291 => (short_Shortest.j1 k x8 x282000 x282001 x282002 bt291.1 bt291.2.1 x285002 x285003 x285004)) else (short_Shortest.j1 k x8 x282000 x282001 x282002 x285000 x285001 x285002 x285003 x285004)
def short_Shortest.j1 : Nat → Int → Int → Int → Int → ByteArray → Int → ByteArray → Int → Bool → Option (ByteArray × Int × Int)
 | 0, _, _, _, _, _, _, _, _, _ => none
 | k + 1, x8, x282000, x282001, x282002, x285000, x285001, x285002, x285003, x285004 => (short_shape_exact.f k x282000 x282001 x282002 x8).bind fun bt294 => (short_Shortest.l0 k 1 bt294.1 bt294.2 x285000 x285001 x285002 x285003 x285004)
def short_Shortest.l0 : Nat → Int → ByteArray → Int → ByteArray → Int → ByteArray → Int → Bool → Option (ByteArray × Int × Int)
 | 0, _, _, _, _, _, _, _, _ => none
 | k + 1, x14, x297000, x297001, x298000, x298001, x298002, x298003, x298004 => (short_best.f k x297000 x297001 x14 x298000 x298001 x298002 x298003 x298004).bind fun bt298 => (if bt298.2.2 = true then (some (bt298.1, bt298.2.1, 0)) else (short_Shortest.l0 k (wrap64 (x14 + 1)) x297000 x297001 x298000 x298001 x298002 x298003 x298004))
end
def short_Shortest.f (k : Nat) (a0 : Int) (a1 : Int) : Option (ByteArray × Int × Int) := (short_of.f a1).bind fun bt277 => (if bt277.2.2.2 = true then (if 0 ≤ (wrap64 (a1 - 1)) then (if (Go.bits .and .u64 a0 (IntKind.u64.wrap ((shl .u64 1 (wrap64 (a1 - 1))) - 1))) ≥ bt277.2.2.1 then (some ((⟨#[]⟩ : ByteArray), 0, 1)) else ((short_shape_value.f bt277.1 bt277.2.1 bt277.2.2.1 (Go.bits .and .u64 a0 (IntKind.u64.wrap ((shl .u64 1 (wrap64 (a1 - 1))) - 1)))).bind fun bt282 => (if bt282.1 = 0 then (some ((⟨#[]⟩ : ByteArray), 0, 0)) else ((bigdec_Exact.f k (IntKind.u64.wrap ((IntKind.u64.wrap (2 * bt282.1)) + 1)) (wrap64 (bt282.2 - 1))).bind fun bt285 => ((bigdec_Exact.f k (IntKind.u64.wrap ((IntKind.u64.wrap (2 * bt282.1)) - 1)) (wrap64 (bt282.2 - 1))).bind fun bt288 => (if 0 ≤ bt277.1 then (if bt282.1 = (shl .u64 1 bt277.1) then (short_Shortest.j0 k (Go.bits .and .u64 a0 (IntKind.u64.wrap ((shl .u64 1 (wrap64 (a1 - 1))) - 1))) bt282.1 bt282.2 (decide (bt282.2 > bt277.2.1)) bt277.1 bt277.2.1 bt277.2.2.1 bt288.1 bt288.2.1 bt285.1 bt285.2.1 ((Int.tmod bt282.1 2) == 0)) else (short_Shortest.j0 k (Go.bits .and .u64 a0 (IntKind.u64.wrap ((shl .u64 1 (wrap64 (a1 - 1))) - 1))) bt282.1 bt282.2 false bt277.1 bt277.2.1 bt277.2.2.1 bt288.1 bt288.2.1 bt285.1 bt285.2.1 ((Int.tmod bt282.1 2) == 0))) else (none))))))) else (none)) else (some ((⟨#[]⟩ : ByteArray), 0, 1)))
set_option maxHeartbeats 8000000 in
set_option maxRecDepth 100000 in
theorem short_Shortest.calls (k : Nat) (a0 : Int) (a1 : Int) (r1 : ByteArray) (r2 : Int) (r3 : Int) (w : World) (h : short_Shortest.f k a0 a1 = some (r1, r2, r3)) :
  Calls Tryd.prog 18 #[.int .u64 a0, .int .i64 a1] w fun e w' => e = .returned (.tuple #[.agg #[.string r1, .int .i64 r2], .int .i64 r3]) ∧ Below w.heap.size w w' := by
 have hu28 := Tryd.underlying28
 have hu50 := Tryd.underlying50
 have hu70 := Tryd.underlying70
 have HB := Aside0.mk (Below.refl w.heap.size w)
 have H : ((short_of.f a1).bind fun bt277 => (if bt277.2.2.2 = true then (if 0 ≤ (wrap64 (a1 - 1)) then (if (Go.bits .and .u64 a0 (IntKind.u64.wrap ((shl .u64 1 (wrap64 (a1 - 1))) - 1))) ≥ bt277.2.2.1 then (some ((⟨#[]⟩ : ByteArray), 0, 1)) else ((short_shape_value.f bt277.1 bt277.2.1 bt277.2.2.1 (Go.bits .and .u64 a0 (IntKind.u64.wrap ((shl .u64 1 (wrap64 (a1 - 1))) - 1)))).bind fun bt282 => (if bt282.1 = 0 then (some ((⟨#[]⟩ : ByteArray), 0, 0)) else ((bigdec_Exact.f k (IntKind.u64.wrap ((IntKind.u64.wrap (2 * bt282.1)) + 1)) (wrap64 (bt282.2 - 1))).bind fun bt285 => ((bigdec_Exact.f k (IntKind.u64.wrap ((IntKind.u64.wrap (2 * bt282.1)) - 1)) (wrap64 (bt282.2 - 1))).bind fun bt288 => (if 0 ≤ bt277.1 then (if bt282.1 = (shl .u64 1 bt277.1) then (short_Shortest.j0 k (Go.bits .and .u64 a0 (IntKind.u64.wrap ((shl .u64 1 (wrap64 (a1 - 1))) - 1))) bt282.1 bt282.2 (decide (bt282.2 > bt277.2.1)) bt277.1 bt277.2.1 bt277.2.2.1 bt288.1 bt288.2.1 bt285.1 bt285.2.1 ((Int.tmod bt282.1 2) == 0)) else (short_Shortest.j0 k (Go.bits .and .u64 a0 (IntKind.u64.wrap ((shl .u64 1 (wrap64 (a1 - 1))) - 1))) bt282.1 bt282.2 false bt277.1 bt277.2.1 bt277.2.2.1 bt288.1 bt288.2.1 bt285.1 bt285.2.1 ((Int.tmod bt282.1 2) == 0))) else (none))))))) else (none)) else (some ((⟨#[]⟩ : ByteArray), 0, 1)))) = some (r1, r2, r3) := h
 clear h
 replace H := Option.bind_eq_some_iff.mp H
 obtain ⟨⟨t277, t278, t279, t280⟩, A30, H⟩ := H
 replace H : (if t280 = true then (if 0 ≤ (wrap64 (a1 - 1)) then (if (Go.bits .and .u64 a0 (IntKind.u64.wrap ((shl .u64 1 (wrap64 (a1 - 1))) - 1))) ≥ t279 then (some ((⟨#[]⟩ : ByteArray), 0, 1)) else ((short_shape_value.f t277 t278 t279 (Go.bits .and .u64 a0 (IntKind.u64.wrap ((shl .u64 1 (wrap64 (a1 - 1))) - 1)))).bind fun bt282 => (if bt282.1 = 0 then (some ((⟨#[]⟩ : ByteArray), 0, 0)) else ((bigdec_Exact.f k (IntKind.u64.wrap ((IntKind.u64.wrap (2 * bt282.1)) + 1)) (wrap64 (bt282.2 - 1))).bind fun bt285 => ((bigdec_Exact.f k (IntKind.u64.wrap ((IntKind.u64.wrap (2 * bt282.1)) - 1)) (wrap64 (bt282.2 - 1))).bind fun bt288 => (if 0 ≤ t277 then (if bt282.1 = (shl .u64 1 t277) then (short_Shortest.j0 k (Go.bits .and .u64 a0 (IntKind.u64.wrap ((shl .u64 1 (wrap64 (a1 - 1))) - 1))) bt282.1 bt282.2 (decide (bt282.2 > t278)) t277 t278 t279 bt288.1 bt288.2.1 bt285.1 bt285.2.1 ((Int.tmod bt282.1 2) == 0)) else (short_Shortest.j0 k (Go.bits .and .u64 a0 (IntKind.u64.wrap ((shl .u64 1 (wrap64 (a1 - 1))) - 1))) bt282.1 bt282.2 false t277 t278 t279 bt288.1 bt288.2.1 bt285.1 bt285.2.1 ((Int.tmod bt282.1 2) == 0))) else (none))))))) else (none)) else (some ((⟨#[]⟩ : ByteArray), 0, 1))) = some (r1, r2, r3) := H
 have A3 := Aside0.mk A30
 clear A30
 by_cases c4 : t280 = true
 ·subst c4
  have H1 : (if 0 ≤ (wrap64 (a1 - 1)) then (if (Go.bits .and .u64 a0 (IntKind.u64.wrap ((shl .u64 1 (wrap64 (a1 - 1))) - 1))) ≥ t279 then (some ((⟨#[]⟩ : ByteArray), 0, 1)) else ((short_shape_value.f t277 t278 t279 (Go.bits .and .u64 a0 (IntKind.u64.wrap ((shl .u64 1 (wrap64 (a1 - 1))) - 1)))).bind fun bt282 => (if bt282.1 = 0 then (some ((⟨#[]⟩ : ByteArray), 0, 0)) else ((bigdec_Exact.f k (IntKind.u64.wrap ((IntKind.u64.wrap (2 * bt282.1)) + 1)) (wrap64 (bt282.2 - 1))).bind fun bt285 => ((bigdec_Exact.f k (IntKind.u64.wrap ((IntKind.u64.wrap (2 * bt282.1)) - 1)) (wrap64 (bt282.2 - 1))).bind fun bt288 => (if 0 ≤ t277 then (if bt282.1 = (shl .u64 1 t277) then (short_Shortest.j0 k (Go.bits .and .u64 a0 (IntKind.u64.wrap ((shl .u64 1 (wrap64 (a1 - 1))) - 1))) bt282.1 bt282.2 (decide (bt282.2 > t278)) t277 t278 t279 bt288.1 bt288.2.1 bt285.1 bt285.2.1 ((Int.tmod bt282.1 2) == 0)) else (short_Shortest.j0 k (Go.bits .and .u64 a0 (IntKind.u64.wrap ((shl .u64 1 (wrap64 (a1 - 1))) - 1))) bt282.1 bt282.2 false t277 t278 t279 bt288.1 bt288.2.1 bt285.1 bt285.2.1 ((Int.tmod bt282.1 2) == 0))) else (none))))))) else (none)) = some (r1, r2, r3) := by rw [if_pos rfl] at H; exact H
  clear H
  have H := H1
  clear H1
  obtain ⟨ji5, hji5⟩ : ∃ j_ : Int, (wrap64 (a1 - 1)) = j_ := ⟨_, rfl⟩
  replace H : (if 0 ≤ (ji5) then (if (Go.bits .and .u64 a0 (IntKind.u64.wrap ((shl .u64 1 (ji5)) - 1))) ≥ t279 then (some ((⟨#[]⟩ : ByteArray), 0, 1)) else ((short_shape_value.f t277 t278 t279 (Go.bits .and .u64 a0 (IntKind.u64.wrap ((shl .u64 1 (ji5)) - 1)))).bind fun bt282 => (if bt282.1 = 0 then (some ((⟨#[]⟩ : ByteArray), 0, 0)) else ((bigdec_Exact.f k (IntKind.u64.wrap ((IntKind.u64.wrap (2 * bt282.1)) + 1)) (wrap64 (bt282.2 - 1))).bind fun bt285 => ((bigdec_Exact.f k (IntKind.u64.wrap ((IntKind.u64.wrap (2 * bt282.1)) - 1)) (wrap64 (bt282.2 - 1))).bind fun bt288 => (if 0 ≤ t277 then (if bt282.1 = (shl .u64 1 t277) then (short_Shortest.j0 k (Go.bits .and .u64 a0 (IntKind.u64.wrap ((shl .u64 1 (ji5)) - 1))) bt282.1 bt282.2 (decide (bt282.2 > t278)) t277 t278 t279 bt288.1 bt288.2.1 bt285.1 bt285.2.1 ((Int.tmod bt282.1 2) == 0)) else (short_Shortest.j0 k (Go.bits .and .u64 a0 (IntKind.u64.wrap ((shl .u64 1 (ji5)) - 1))) bt282.1 bt282.2 false t277 t278 t279 bt288.1 bt288.2.1 bt285.1 bt285.2.1 ((Int.tmod bt282.1 2) == 0))) else (none))))))) else (none)) = some (r1, r2, r3) := by first | (rw [hji5] at H; exact H) | (simp only [hji5] at H ⊢; exact H)
  (try rw [hji5] at A3)
  have hji5w : (IntKind.i64.wrap (a1 - 1)) = ji5 := (i64_w _).trans hji5
  by_cases c6 : 0 ≤ (ji5)
  ·rw [if_pos c6] at H
   have c6b0 := eq_true c6
   have c6b1 : decide (0 ≤ (ji5)) = true := decide_eq_true c6
   clear c6
   obtain ⟨ji7, hji7⟩ : ∃ j_ : Int, (shl .u64 1 (ji5)) = j_ := ⟨_, rfl⟩
   replace H : (if (Go.bits .and .u64 a0 (IntKind.u64.wrap ((ji7) - 1))) ≥ t279 then (some ((⟨#[]⟩ : ByteArray), 0, 1)) else ((short_shape_value.f t277 t278 t279 (Go.bits .and .u64 a0 (IntKind.u64.wrap ((ji7) - 1)))).bind fun bt282 => (if bt282.1 = 0 then (some ((⟨#[]⟩ : ByteArray), 0, 0)) else ((bigdec_Exact.f k (IntKind.u64.wrap ((IntKind.u64.wrap (2 * bt282.1)) + 1)) (wrap64 (bt282.2 - 1))).bind fun bt285 => ((bigdec_Exact.f k (IntKind.u64.wrap ((IntKind.u64.wrap (2 * bt282.1)) - 1)) (wrap64 (bt282.2 - 1))).bind fun bt288 => (if 0 ≤ t277 then (if bt282.1 = (shl .u64 1 t277) then (short_Shortest.j0 k (Go.bits .and .u64 a0 (IntKind.u64.wrap ((ji7) - 1))) bt282.1 bt282.2 (decide (bt282.2 > t278)) t277 t278 t279 bt288.1 bt288.2.1 bt285.1 bt285.2.1 ((Int.tmod bt282.1 2) == 0)) else (short_Shortest.j0 k (Go.bits .and .u64 a0 (IntKind.u64.wrap ((ji7) - 1))) bt282.1 bt282.2 false t277 t278 t279 bt288.1 bt288.2.1 bt285.1 bt285.2.1 ((Int.tmod bt282.1 2) == 0))) else (none))))))) = some (r1, r2, r3) := by first | (rw [hji7] at H; exact H) | (simp only [hji7] at H ⊢; exact H)
   (try rw [hji7] at A3)
   have hji7_ : (IntKind.u64.wrap (1 * 2 ^ min (ji5).toNat 64)) = ji7 := hji7
   have hji7z : (ji5) ≤ 64 → (IntKind.u64.wrap (1 * 2 ^ (ji5).toNat)) = ji7 := shl_small hji7
   have hji7u : (IntKind.u64.wrap (2 ^ min (ji5).toNat 64)) = ji7 := by have h_ := hji7_; rw [Int.one_mul] at h_; exact h_
   have hji7v : (ji5) ≤ 64 → (IntKind.u64.wrap (2 ^ (ji5).toNat)) = ji7 := fun hle_ => by have h_ := hji7z hle_; rw [Int.one_mul] at h_; exact h_
   by_cases c8 : (Go.bits .and .u64 a0 (IntKind.u64.wrap ((ji7) - 1))) ≥ t279
   ·rw [if_pos c8] at H
    have c8b0 : decide (t279 ≤ (Go.bits .and .u64 a0 (IntKind.u64.wrap ((ji7) - 1)))) = true := decide_eq_true c8
    clear c8
    simp only [Option.some.injEq, Prod.mk.injEq] at H
    obtain ⟨rfl, rfl, rfl⟩ := H
    go_enter Tryd.func18, Tryd.ntmps18
    go_wp2_with (first | ((with_reducible refine gate_dst (N := 4) rfl ?_); refine box_event ?hg (N := 4) ?hd (cs := #[.string (⟨#[]⟩ : ByteArray), .int .i64 0]) (t := 28) ?hr ?_; (case hd => rfl); (case hg => rfl); (case hr => first | (go_simp; done) | (go_simp; rfl)); intro gb276 hg w9 hbox hb; have n0_ := Aside0.mk (below_step (by repeat (first | (with_reducible first | exact HB.out | apply below_alloc | apply pw_below_drewN | apply below_drew1) | exact HB.out)) hb); have n1_ := Aside0.mk (hbox); have n2_ := Aside0.mk ((by rw [hg]; exact (below_size (by repeat (first | (with_reducible first | exact HB.out | apply below_alloc | apply pw_below_drewN | apply below_drew1) | exact HB.out))) : w.heap.size ≤ gb276)); have n3_ := Aside0.mk ((by rw [hg]; exact (below_size (by repeat (first | (with_reducible first | exact HB.out | apply below_alloc | apply pw_below_drewN | apply below_drew1) | exact HB.out))) : w.heap.size ≤ gb276)); clear HB; have HB := n0_; have BK276 := n1_; have GW276 := n2_; have GE276 := n3_; clear n0_ n1_ n2_ n3_; clear hb hbox hg) | ((with_reducible refine gate_callee (f := 27) rfl ?_); refine goesL_ (some 19) rfl rfl Tryd.func27 (by kernel_rfl) rfl #[.int .i64 a1] rfl (by (try simp only [List.map_toArray, List.map_cons, List.map_nil]); first | done | rfl | (simp only [List.length_drop, List.length_take]; rfl)) ?_; (with_reducible refine (short_of.calls a1 t277 t278 t279 true _ A3.out).mono ?_); rintro e w10 ⟨rfl, hb⟩; refine ⟨_, rfl, ?_⟩; have n0_ := Aside0.mk (blk_below (g := gb276) (o := .cells #[.string (⟨#[]⟩ : ByteArray), .int .i64 0] 28 (0, 0)) (by (with_reducible repeat (first | refine blk_drewN ?_ _ | refine blk_drew ?_ | refine blk_alloc ?_ _)); exact BK276.out) hb); have n1_ := Aside0.mk (below_step (by repeat (first | (with_reducible first | exact HB.out | apply below_alloc | apply pw_below_drewN | apply below_drew1 | refine below_set ?_ GE276.out) | exact HB.out)) hb); clear BK276; clear HB; have BK276 := n0_; have HB := n1_; clear n0_ n1_; (try clear hb); (try clear hb2); (try clear hk); (try clear hi)) | ((with_reducible refine gate_dst (N := 6) rfl ?_); refine box_event ?hg (N := 6) ?hd (cs := #[.int .i64 0, .int .i64 0, .int .u64 0]) (t := 50) ?hr ?_; (case hd => rfl); (case hg => rfl); (case hr => first | (go_simp; done) | (go_simp; rfl)); intro gb281 hg w11 hbox hb; have n0_ := Aside0.mk (blk_below (g := gb276) (o := .cells #[.string (⟨#[]⟩ : ByteArray), .int .i64 0] 28 (0, 0)) (by (with_reducible repeat (first | refine blk_drewN ?_ _ | refine blk_drew ?_ | refine blk_alloc ?_ _)); exact BK276.out) hb); have n1_ := Aside0.mk (below_step (by repeat (first | (with_reducible first | exact HB.out | apply below_alloc | apply pw_below_drewN | apply below_drew1 | refine below_set ?_ GE276.out) | exact HB.out)) hb); have n2_ := Aside0.mk (hbox); have n3_ := Aside0.mk ((by rw [hg]; exact (below_size (by repeat (first | (with_reducible first | exact HB.out | apply below_alloc | apply pw_below_drewN | apply below_drew1 | refine below_set ?_ GE276.out) | exact HB.out))) : w.heap.size ≤ gb281)); have n4_ := Aside0.mk ((by rw [hg]; exact (below_size (by repeat (first | (with_reducible first | exact HB.out | apply below_alloc | apply pw_below_drewN | apply below_drew1 | refine below_set ?_ GE276.out) | exact HB.out))) : w.heap.size ≤ gb281)); have n5_ := Aside0.mk ((by rw [hg]; exact Nat.ne_of_lt (blk_lt (g := gb276) (o := .cells #[.string (⟨#[]⟩ : ByteArray), .int .i64 0] 28 (0, 0)) (by (with_reducible repeat (first | refine blk_drewN ?_ _ | refine blk_drew ?_ | refine blk_alloc ?_ _)); exact BK276.out)) : gb276 ≠ gb281)); have n6_ := Aside0.mk ((by rw [hg]; exact Nat.ne_of_gt (blk_lt (g := gb276) (o := .cells #[.string (⟨#[]⟩ : ByteArray), .int .i64 0] 28 (0, 0)) (by (with_reducible repeat (first | refine blk_drewN ?_ _ | refine blk_drew ?_ | refine blk_alloc ?_ _)); exact BK276.out)) : gb281 ≠ gb276)); clear BK276; clear HB; have BK276 := n0_; have HB := n1_; have BK281 := n2_; have GW281 := n3_; have GE281 := n4_; have NB276_281 := n5_; have NB281_276 := n6_; clear n0_ n1_ n2_ n3_ n4_ n5_ n6_; clear hb hbox hg; have hnb12 := NB281_276.out; have hnc12 := NB276_281.out; have hcz13_0 : w11.cell? ⟨gb281, 0, none⟩ = some (.int .i64 0) := (blk_cell BK281.out 0).trans rfl; have hcz13_1 : w11.cell? ⟨gb281, 1, none⟩ = some (.int .i64 0) := (blk_cell BK281.out 1).trans rfl; have hcz13_2 : w11.cell? ⟨gb281, 2, none⟩ = some (.int .u64 0) := (blk_cell BK281.out 2).trans rfl; have hfz13_0 := blk_frozen BK281.out 0; have hfz13_1 := blk_frozen BK281.out 1; have hfz13_2 := blk_frozen BK281.out 2; have hcz14_0 : w11.cell? ⟨gb276, 0, none⟩ = some (.string (⟨#[]⟩ : ByteArray)) := (blk_cell BK276.out 0).trans rfl; have hcz14_1 : w11.cell? ⟨gb276, 1, none⟩ = some (.int .i64 0) := (blk_cell BK276.out 1).trans rfl; have hfz14_0 := blk_frozen BK276.out 0; have hfz14_1 := blk_frozen BK276.out 1))
    refine bodyPost_ret (results_ct rfl _ _ gb276 28 #[.string (⟨#[]⟩ : ByteArray), .int .i64 0] (0, 0) _ rfl (by (with_reducible repeat (first | refine blk_drewN ?_ _ | refine blk_drew ?_ | refine blk_alloc ?_ _)); refine blk_put (cs := #[.string (⟨#[]⟩ : ByteArray), .int .i64 0]) ?_ 1 _ rfl; (with_reducible repeat (first | refine blk_drewN ?_ _ | refine blk_drew ?_ | refine blk_alloc ?_ _)); refine blk_put (cs := #[.string (⟨#[]⟩ : ByteArray), .int .i64 0]) ?_ 0 _ rfl; (with_reducible repeat (first | refine blk_drewN ?_ _ | refine blk_drew ?_ | refine blk_alloc ?_ _)); refine blk_far ?_ NB276_281.out _; (with_reducible repeat (first | refine blk_drewN ?_ _ | refine blk_drew ?_ | refine blk_alloc ?_ _)); refine blk_far ?_ NB276_281.out _; (with_reducible repeat (first | refine blk_drewN ?_ _ | refine blk_drew ?_ | refine blk_alloc ?_ _)); refine blk_far ?_ NB276_281.out _; (with_reducible repeat (first | refine blk_drewN ?_ _ | refine blk_drew ?_ | refine blk_alloc ?_ _)); exact BK276.out) Tryd.underlying28 rfl (by kernel_rfl)) rfl ?_
    exact ⟨by first | rfl | (simp [errW_none, errW_some] <;> rfl) | (simp only [← hji5, ← hji7]; first | rfl | (simp [errW_none, errW_some] <;> rfl)) | (simp [*, errW_none, errW_some] <;> rfl), by repeat (first | (with_reducible first | exact HB.out | apply below_alloc | apply pw_below_drewN | apply below_drew1 | refine below_set ?_ GE276.out | refine below_set ?_ GE281.out) | exact HB.out)⟩
   ·rw [if_neg c8] at H
    have c8b0 : decide (t279 ≤ (Go.bits .and .u64 a0 (IntKind.u64.wrap ((ji7) - 1)))) = false := decide_eq_false c8
    clear c8
    replace H := Option.bind_eq_some_iff.mp H
    obtain ⟨⟨t282, t283⟩, A150, H⟩ := H
    replace H : (if t282 = 0 then (some ((⟨#[]⟩ : ByteArray), 0, 0)) else ((bigdec_Exact.f k (IntKind.u64.wrap ((IntKind.u64.wrap (2 * t282)) + 1)) (wrap64 (t283 - 1))).bind fun bt285 => ((bigdec_Exact.f k (IntKind.u64.wrap ((IntKind.u64.wrap (2 * t282)) - 1)) (wrap64 (t283 - 1))).bind fun bt288 => (if 0 ≤ t277 then (if t282 = (shl .u64 1 t277) then (short_Shortest.j0 k (Go.bits .and .u64 a0 (IntKind.u64.wrap ((ji7) - 1))) t282 t283 (decide (t283 > t278)) t277 t278 t279 bt288.1 bt288.2.1 bt285.1 bt285.2.1 ((Int.tmod t282 2) == 0)) else (short_Shortest.j0 k (Go.bits .and .u64 a0 (IntKind.u64.wrap ((ji7) - 1))) t282 t283 false t277 t278 t279 bt288.1 bt288.2.1 bt285.1 bt285.2.1 ((Int.tmod t282 2) == 0))) else (none))))) = some (r1, r2, r3) := H
    have A15 := Aside0.mk A150
    clear A150
    by_cases c16 : t282 = 0
    ·rw [if_pos c16] at H
     have c16b0 : (t282 == 0) = true := beq_iff_eq.mpr c16
     have c16b1 : (t282 != 0) = false := bne_eq_false_iff_eq.mpr c16
     clear c16
     simp only [Option.some.injEq, Prod.mk.injEq] at H
     obtain ⟨rfl, rfl, rfl⟩ := H
     go_enter Tryd.func18, Tryd.ntmps18
     go_wp2_with (first | ((with_reducible refine gate_dst (N := 4) rfl ?_); refine box_event ?hg (N := 4) ?hd (cs := #[.string (⟨#[]⟩ : ByteArray), .int .i64 0]) (t := 28) ?hr ?_; (case hd => rfl); (case hg => rfl); (case hr => first | (go_simp; done) | (go_simp; rfl)); intro gb276 hg w17 hbox hb; have n0_ := Aside0.mk (below_step (by repeat (first | (with_reducible first | exact HB.out | apply below_alloc | apply pw_below_drewN | apply below_drew1) | exact HB.out)) hb); have n1_ := Aside0.mk (hbox); have n2_ := Aside0.mk ((by rw [hg]; exact (below_size (by repeat (first | (with_reducible first | exact HB.out | apply below_alloc | apply pw_below_drewN | apply below_drew1) | exact HB.out))) : w.heap.size ≤ gb276)); have n3_ := Aside0.mk ((by rw [hg]; exact (below_size (by repeat (first | (with_reducible first | exact HB.out | apply below_alloc | apply pw_below_drewN | apply below_drew1) | exact HB.out))) : w.heap.size ≤ gb276)); clear HB; have HB := n0_; have BK276 := n1_; have GW276 := n2_; have GE276 := n3_; clear n0_ n1_ n2_ n3_; clear hb hbox hg) | ((with_reducible refine gate_callee (f := 27) rfl ?_); refine goesL_ (some 19) rfl rfl Tryd.func27 (by kernel_rfl) rfl #[.int .i64 a1] rfl (by (try simp only [List.map_toArray, List.map_cons, List.map_nil]); first | done | rfl | (simp only [List.length_drop, List.length_take]; rfl)) ?_; (with_reducible refine (short_of.calls a1 t277 t278 t279 true _ A3.out).mono ?_); rintro e w18 ⟨rfl, hb⟩; refine ⟨_, rfl, ?_⟩; have n0_ := Aside0.mk (blk_below (g := gb276) (o := .cells #[.string (⟨#[]⟩ : ByteArray), .int .i64 0] 28 (0, 0)) (by (with_reducible repeat (first | refine blk_drewN ?_ _ | refine blk_drew ?_ | refine blk_alloc ?_ _)); exact BK276.out) hb); have n1_ := Aside0.mk (below_step (by repeat (first | (with_reducible first | exact HB.out | apply below_alloc | apply pw_below_drewN | apply below_drew1 | refine below_set ?_ GE276.out) | exact HB.out)) hb); clear BK276; clear HB; have BK276 := n0_; have HB := n1_; clear n0_ n1_; (try clear hb); (try clear hb2); (try clear hk); (try clear hi)) | ((with_reducible refine gate_dst (N := 6) rfl ?_); refine box_event ?hg (N := 6) ?hd (cs := #[.int .i64 0, .int .i64 0, .int .u64 0]) (t := 50) ?hr ?_; (case hd => rfl); (case hg => rfl); (case hr => first | (go_simp; done) | (go_simp; rfl)); intro gb281 hg w19 hbox hb; have n0_ := Aside0.mk (blk_below (g := gb276) (o := .cells #[.string (⟨#[]⟩ : ByteArray), .int .i64 0] 28 (0, 0)) (by (with_reducible repeat (first | refine blk_drewN ?_ _ | refine blk_drew ?_ | refine blk_alloc ?_ _)); exact BK276.out) hb); have n1_ := Aside0.mk (below_step (by repeat (first | (with_reducible first | exact HB.out | apply below_alloc | apply pw_below_drewN | apply below_drew1 | refine below_set ?_ GE276.out) | exact HB.out)) hb); have n2_ := Aside0.mk (hbox); have n3_ := Aside0.mk ((by rw [hg]; exact (below_size (by repeat (first | (with_reducible first | exact HB.out | apply below_alloc | apply pw_below_drewN | apply below_drew1 | refine below_set ?_ GE276.out) | exact HB.out))) : w.heap.size ≤ gb281)); have n4_ := Aside0.mk ((by rw [hg]; exact (below_size (by repeat (first | (with_reducible first | exact HB.out | apply below_alloc | apply pw_below_drewN | apply below_drew1 | refine below_set ?_ GE276.out) | exact HB.out))) : w.heap.size ≤ gb281)); have n5_ := Aside0.mk ((by rw [hg]; exact Nat.ne_of_lt (blk_lt (g := gb276) (o := .cells #[.string (⟨#[]⟩ : ByteArray), .int .i64 0] 28 (0, 0)) (by (with_reducible repeat (first | refine blk_drewN ?_ _ | refine blk_drew ?_ | refine blk_alloc ?_ _)); exact BK276.out)) : gb276 ≠ gb281)); have n6_ := Aside0.mk ((by rw [hg]; exact Nat.ne_of_gt (blk_lt (g := gb276) (o := .cells #[.string (⟨#[]⟩ : ByteArray), .int .i64 0] 28 (0, 0)) (by (with_reducible repeat (first | refine blk_drewN ?_ _ | refine blk_drew ?_ | refine blk_alloc ?_ _)); exact BK276.out)) : gb281 ≠ gb276)); clear BK276; clear HB; have BK276 := n0_; have HB := n1_; have BK281 := n2_; have GW281 := n3_; have GE281 := n4_; have NB276_281 := n5_; have NB281_276 := n6_; clear n0_ n1_ n2_ n3_ n4_ n5_ n6_; clear hb hbox hg; have hnb20 := NB281_276.out; have hnc20 := NB276_281.out; have hcz21_0 : w19.cell? ⟨gb281, 0, none⟩ = some (.int .i64 0) := (blk_cell BK281.out 0).trans rfl; have hcz21_1 : w19.cell? ⟨gb281, 1, none⟩ = some (.int .i64 0) := (blk_cell BK281.out 1).trans rfl; have hcz21_2 : w19.cell? ⟨gb281, 2, none⟩ = some (.int .u64 0) := (blk_cell BK281.out 2).trans rfl; have hfz21_0 := blk_frozen BK281.out 0; have hfz21_1 := blk_frozen BK281.out 1; have hfz21_2 := blk_frozen BK281.out 2) | ((with_reducible refine gate_callee (f := 28) rfl ?_); refine goesL_ (some 39) rfl rfl Tryd.func28 (by kernel_rfl) rfl #[.agg #[.int .i64 t277, .int .i64 t278, .int .u64 t279], .int .u64 (Go.bits .and .u64 a0 (IntKind.u64.wrap ((ji7) - 1)))] rfl (by (try simp only [List.map_toArray, List.map_cons, List.map_nil]); first | done | (simp only [hji7]; rfl) | rfl | (simp only [List.length_drop, List.length_take]; rfl)) ?_; (with_reducible refine (short_shape_value.calls t277 t278 t279 (Go.bits .and .u64 a0 (IntKind.u64.wrap ((ji7) - 1))) t282 t283 _ A15.out).mono ?_); rintro e w22 ⟨rfl, hb⟩; refine ⟨_, rfl, ?_⟩; have n0_ := Aside0.mk (blk_below (g := gb276) (o := .cells #[.string (⟨#[]⟩ : ByteArray), .int .i64 0] 28 (0, 0)) (by (with_reducible repeat (first | refine blk_drewN ?_ _ | refine blk_drew ?_ | refine blk_alloc ?_ _)); refine blk_far ?_ NB276_281.out _; (with_reducible repeat (first | refine blk_drewN ?_ _ | refine blk_drew ?_ | refine blk_alloc ?_ _)); refine blk_far ?_ NB276_281.out _; (with_reducible repeat (first | refine blk_drewN ?_ _ | refine blk_drew ?_ | refine blk_alloc ?_ _)); refine blk_far ?_ NB276_281.out _; (with_reducible repeat (first | refine blk_drewN ?_ _ | refine blk_drew ?_ | refine blk_alloc ?_ _)); exact BK276.out) hb); have n1_ := Aside0.mk (blk_below (g := gb281) (o := .cells #[.int .i64 t277, .int .i64 t278, .int .u64 t279] 50 (0, 0)) (by (with_reducible repeat (first | refine blk_drewN ?_ _ | refine blk_drew ?_ | refine blk_alloc ?_ _)); refine blk_put (cs := #[.int .i64 t277, .int .i64 t278, .int .u64 0]) ?_ 2 _ rfl; (with_reducible repeat (first | refine blk_drewN ?_ _ | refine blk_drew ?_ | refine blk_alloc ?_ _)); refine blk_put (cs := #[.int .i64 t277, .int .i64 0, .int .u64 0]) ?_ 1 _ rfl; (with_reducible repeat (first | refine blk_drewN ?_ _ | refine blk_drew ?_ | refine blk_alloc ?_ _)); refine blk_put (cs := #[.int .i64 0, .int .i64 0, .int .u64 0]) ?_ 0 _ rfl; (with_reducible repeat (first | refine blk_drewN ?_ _ | refine blk_drew ?_ | refine blk_alloc ?_ _)); exact BK281.out) hb); have n2_ := Aside0.mk (below_step (by repeat (first | (with_reducible first | exact HB.out | apply below_alloc | apply pw_below_drewN | apply below_drew1 | refine below_set ?_ GE276.out | refine below_set ?_ GE281.out) | exact HB.out)) hb); clear BK276; clear BK281; clear HB; have BK276 := n0_; have BK281 := n1_; have HB := n2_; clear n0_ n1_ n2_; (try clear hb); (try clear hb2); (try clear hk); (try clear hi); have hcz23_0 : w22.cell? ⟨gb276, 0, none⟩ = some (.string (⟨#[]⟩ : ByteArray)) := (blk_cell BK276.out 0).trans rfl; have hcz23_1 : w22.cell? ⟨gb276, 1, none⟩ = some (.int .i64 0) := (blk_cell BK276.out 1).trans rfl; have hfz23_0 := blk_frozen BK276.out 0; have hfz23_1 := blk_frozen BK276.out 1))
     refine bodyPost_ret (results_ct rfl _ _ gb276 28 #[.string (⟨#[]⟩ : ByteArray), .int .i64 0] (0, 0) _ rfl (by (with_reducible repeat (first | refine blk_drewN ?_ _ | refine blk_drew ?_ | refine blk_alloc ?_ _)); refine blk_put (cs := #[.string (⟨#[]⟩ : ByteArray), .int .i64 0]) ?_ 1 _ rfl; (with_reducible repeat (first | refine blk_drewN ?_ _ | refine blk_drew ?_ | refine blk_alloc ?_ _)); refine blk_put (cs := #[.string (⟨#[]⟩ : ByteArray), .int .i64 0]) ?_ 0 _ rfl; (with_reducible repeat (first | refine blk_drewN ?_ _ | refine blk_drew ?_ | refine blk_alloc ?_ _)); exact BK276.out) Tryd.underlying28 rfl (by kernel_rfl)) rfl ?_
     exact ⟨by first | rfl | (simp [errW_none, errW_some] <;> rfl) | (simp only [← hji5, ← hji7]; first | rfl | (simp [errW_none, errW_some] <;> rfl)) | (simp [*, errW_none, errW_some] <;> rfl), by repeat (first | (with_reducible first | exact HB.out | apply below_alloc | apply pw_below_drewN | apply below_drew1 | refine below_set ?_ GE276.out | refine below_set ?_ GE281.out) | exact HB.out)⟩
    ·rw [if_neg c16] at H
     have c16b0 : (t282 == 0) = false := beq_eq_false_iff_ne.mpr c16
     have c16b1 : (t282 != 0) = true := bne_iff_ne.mpr c16
     replace H := Option.bind_eq_some_iff.mp H
     obtain ⟨⟨t285, t286, t287⟩, A240, H⟩ := H
     replace H : ((bigdec_Exact.f k (IntKind.u64.wrap ((IntKind.u64.wrap (2 * t282)) - 1)) (wrap64 (t283 - 1))).bind fun bt288 => (if 0 ≤ t277 then (if t282 = (shl .u64 1 t277) then (short_Shortest.j0 k (Go.bits .and .u64 a0 (IntKind.u64.wrap ((ji7) - 1))) t282 t283 (decide (t283 > t278)) t277 t278 t279 bt288.1 bt288.2.1 t285 t286 ((Int.tmod t282 2) == 0)) else (short_Shortest.j0 k (Go.bits .and .u64 a0 (IntKind.u64.wrap ((ji7) - 1))) t282 t283 false t277 t278 t279 bt288.1 bt288.2.1 t285 t286 ((Int.tmod t282 2) == 0))) else (none))) = some (r1, r2, r3) := H
     have A24 := Aside0.mk A240
     clear A240
     replace H := Option.bind_eq_some_iff.mp H
     obtain ⟨⟨t288, t289, t290⟩, A250, H⟩ := H
     replace H : (if 0 ≤ t277 then (if t282 = (shl .u64 1 t277) then (short_Shortest.j0 k (Go.bits .and .u64 a0 (IntKind.u64.wrap ((ji7) - 1))) t282 t283 (decide (t283 > t278)) t277 t278 t279 t288 t289 t285 t286 ((Int.tmod t282 2) == 0)) else (short_Shortest.j0 k (Go.bits .and .u64 a0 (IntKind.u64.wrap ((ji7) - 1))) t282 t283 false t277 t278 t279 t288 t289 t285 t286 ((Int.tmod t282 2) == 0))) else (none)) = some (r1, r2, r3) := H
     have A25 := Aside0.mk A250
     clear A250
     have HC26 := Aside0.mk H
     clear H
     go_enter Tryd.func18, Tryd.ntmps18
     go_upto_region 13 with (first | ((with_reducible refine gate_dst (N := 4) rfl ?_); refine box_event ?hg (N := 4) ?hd (cs := #[.string (⟨#[]⟩ : ByteArray), .int .i64 0]) (t := 28) ?hr ?_; (case hd => rfl); (case hg => rfl); (case hr => first | (go_simp; done) | (go_simp; rfl)); intro gb276 hg w27 hbox hb; have n0_ := Aside0.mk (below_step (by repeat (first | (with_reducible first | exact HB.out | apply below_alloc | apply pw_below_drewN | apply below_drew1) | exact HB.out)) hb); have n1_ := Aside0.mk (hbox); have n2_ := Aside0.mk ((by rw [hg]; exact (below_size (by repeat (first | (with_reducible first | exact HB.out | apply below_alloc | apply pw_below_drewN | apply below_drew1) | exact HB.out))) : w.heap.size ≤ gb276)); have n3_ := Aside0.mk ((by rw [hg]; exact (below_size (by repeat (first | (with_reducible first | exact HB.out | apply below_alloc | apply pw_below_drewN | apply below_drew1) | exact HB.out))) : w.heap.size ≤ gb276)); clear HB; have HB := n0_; have BK276 := n1_; have GW276 := n2_; have GE276 := n3_; clear n0_ n1_ n2_ n3_; clear hb hbox hg) | ((with_reducible refine gate_callee (f := 27) rfl ?_); refine goesL_ (some 19) rfl rfl Tryd.func27 (by kernel_rfl) rfl #[.int .i64 a1] rfl (by (try simp only [List.map_toArray, List.map_cons, List.map_nil]); first | done | rfl | (simp only [List.length_drop, List.length_take]; rfl)) ?_; (with_reducible refine (short_of.calls a1 t277 t278 t279 true _ A3.out).mono ?_); rintro e w28 ⟨rfl, hb⟩; refine ⟨_, rfl, ?_⟩; have n0_ := Aside0.mk (blk_below (g := gb276) (o := .cells #[.string (⟨#[]⟩ : ByteArray), .int .i64 0] 28 (0, 0)) (by (with_reducible repeat (first | refine blk_drewN ?_ _ | refine blk_drew ?_ | refine blk_alloc ?_ _)); exact BK276.out) hb); have n1_ := Aside0.mk (below_step (by repeat (first | (with_reducible first | exact HB.out | apply below_alloc | apply pw_below_drewN | apply below_drew1 | refine below_set ?_ GE276.out) | exact HB.out)) hb); clear BK276; clear HB; have BK276 := n0_; have HB := n1_; clear n0_ n1_; (try clear hb); (try clear hb2); (try clear hk); (try clear hi)) | ((with_reducible refine gate_dst (N := 6) rfl ?_); refine box_event ?hg (N := 6) ?hd (cs := #[.int .i64 0, .int .i64 0, .int .u64 0]) (t := 50) ?hr ?_; (case hd => rfl); (case hg => rfl); (case hr => first | (go_simp; done) | (go_simp; rfl)); intro gb281 hg w29 hbox hb; have n0_ := Aside0.mk (blk_below (g := gb276) (o := .cells #[.string (⟨#[]⟩ : ByteArray), .int .i64 0] 28 (0, 0)) (by (with_reducible repeat (first | refine blk_drewN ?_ _ | refine blk_drew ?_ | refine blk_alloc ?_ _)); exact BK276.out) hb); have n1_ := Aside0.mk (below_step (by repeat (first | (with_reducible first | exact HB.out | apply below_alloc | apply pw_below_drewN | apply below_drew1 | refine below_set ?_ GE276.out) | exact HB.out)) hb); have n2_ := Aside0.mk (hbox); have n3_ := Aside0.mk ((by rw [hg]; exact (below_size (by repeat (first | (with_reducible first | exact HB.out | apply below_alloc | apply pw_below_drewN | apply below_drew1 | refine below_set ?_ GE276.out) | exact HB.out))) : w.heap.size ≤ gb281)); have n4_ := Aside0.mk ((by rw [hg]; exact (below_size (by repeat (first | (with_reducible first | exact HB.out | apply below_alloc | apply pw_below_drewN | apply below_drew1 | refine below_set ?_ GE276.out) | exact HB.out))) : w.heap.size ≤ gb281)); have n5_ := Aside0.mk ((by rw [hg]; exact Nat.ne_of_lt (blk_lt (g := gb276) (o := .cells #[.string (⟨#[]⟩ : ByteArray), .int .i64 0] 28 (0, 0)) (by (with_reducible repeat (first | refine blk_drewN ?_ _ | refine blk_drew ?_ | refine blk_alloc ?_ _)); exact BK276.out)) : gb276 ≠ gb281)); have n6_ := Aside0.mk ((by rw [hg]; exact Nat.ne_of_gt (blk_lt (g := gb276) (o := .cells #[.string (⟨#[]⟩ : ByteArray), .int .i64 0] 28 (0, 0)) (by (with_reducible repeat (first | refine blk_drewN ?_ _ | refine blk_drew ?_ | refine blk_alloc ?_ _)); exact BK276.out)) : gb281 ≠ gb276)); clear BK276; clear HB; have BK276 := n0_; have HB := n1_; have BK281 := n2_; have GW281 := n3_; have GE281 := n4_; have NB276_281 := n5_; have NB281_276 := n6_; clear n0_ n1_ n2_ n3_ n4_ n5_ n6_; clear hb hbox hg; have hnb30 := NB281_276.out; have hnc30 := NB276_281.out; have hcz31_0 : w29.cell? ⟨gb281, 0, none⟩ = some (.int .i64 0) := (blk_cell BK281.out 0).trans rfl; have hcz31_1 : w29.cell? ⟨gb281, 1, none⟩ = some (.int .i64 0) := (blk_cell BK281.out 1).trans rfl; have hcz31_2 : w29.cell? ⟨gb281, 2, none⟩ = some (.int .u64 0) := (blk_cell BK281.out 2).trans rfl; have hfz31_0 := blk_frozen BK281.out 0; have hfz31_1 := blk_frozen BK281.out 1; have hfz31_2 := blk_frozen BK281.out 2) | ((with_reducible refine gate_callee (f := 28) rfl ?_); refine goesL_ (some 39) rfl rfl Tryd.func28 (by kernel_rfl) rfl #[.agg #[.int .i64 t277, .int .i64 t278, .int .u64 t279], .int .u64 (Go.bits .and .u64 a0 (IntKind.u64.wrap ((ji7) - 1)))] rfl (by (try simp only [List.map_toArray, List.map_cons, List.map_nil]); first | done | (simp only [hji7]; rfl) | rfl | (simp only [List.length_drop, List.length_take]; rfl)) ?_; (with_reducible refine (short_shape_value.calls t277 t278 t279 (Go.bits .and .u64 a0 (IntKind.u64.wrap ((ji7) - 1))) t282 t283 _ A15.out).mono ?_); rintro e w32 ⟨rfl, hb⟩; refine ⟨_, rfl, ?_⟩; have n0_ := Aside0.mk (blk_below (g := gb276) (o := .cells #[.string (⟨#[]⟩ : ByteArray), .int .i64 0] 28 (0, 0)) (by (with_reducible repeat (first | refine blk_drewN ?_ _ | refine blk_drew ?_ | refine blk_alloc ?_ _)); refine blk_far ?_ NB276_281.out _; (with_reducible repeat (first | refine blk_drewN ?_ _ | refine blk_drew ?_ | refine blk_alloc ?_ _)); refine blk_far ?_ NB276_281.out _; (with_reducible repeat (first | refine blk_drewN ?_ _ | refine blk_drew ?_ | refine blk_alloc ?_ _)); refine blk_far ?_ NB276_281.out _; (with_reducible repeat (first | refine blk_drewN ?_ _ | refine blk_drew ?_ | refine blk_alloc ?_ _)); exact BK276.out) hb); have n1_ := Aside0.mk (blk_below (g := gb281) (o := .cells #[.int .i64 t277, .int .i64 t278, .int .u64 t279] 50 (0, 0)) (by (with_reducible repeat (first | refine blk_drewN ?_ _ | refine blk_drew ?_ | refine blk_alloc ?_ _)); refine blk_put (cs := #[.int .i64 t277, .int .i64 t278, .int .u64 0]) ?_ 2 _ rfl; (with_reducible repeat (first | refine blk_drewN ?_ _ | refine blk_drew ?_ | refine blk_alloc ?_ _)); refine blk_put (cs := #[.int .i64 t277, .int .i64 0, .int .u64 0]) ?_ 1 _ rfl; (with_reducible repeat (first | refine blk_drewN ?_ _ | refine blk_drew ?_ | refine blk_alloc ?_ _)); refine blk_put (cs := #[.int .i64 0, .int .i64 0, .int .u64 0]) ?_ 0 _ rfl; (with_reducible repeat (first | refine blk_drewN ?_ _ | refine blk_drew ?_ | refine blk_alloc ?_ _)); exact BK281.out) hb); have n2_ := Aside0.mk (below_step (by repeat (first | (with_reducible first | exact HB.out | apply below_alloc | apply pw_below_drewN | apply below_drew1 | refine below_set ?_ GE276.out | refine below_set ?_ GE281.out) | exact HB.out)) hb); clear BK276; clear BK281; clear HB; have BK276 := n0_; have BK281 := n1_; have HB := n2_; clear n0_ n1_ n2_; (try clear hb); (try clear hb2); (try clear hk); (try clear hi)) | ((with_reducible refine gate_dst (N := 11) rfl ?_); refine box_event ?hg (N := 11) ?hd (cs := #[.string (⟨#[]⟩ : ByteArray), .int .i64 0, .string (⟨#[]⟩ : ByteArray), .int .i64 0, .bool false]) (t := 70) ?hr ?_; (case hd => rfl); (case hg => rfl); (case hr => first | (go_simp; done) | (go_simp; rfl)); intro gb284 hg w33 hbox hb; have n0_ := Aside0.mk (blk_below (g := gb276) (o := .cells #[.string (⟨#[]⟩ : ByteArray), .int .i64 0] 28 (0, 0)) (by (with_reducible repeat (first | refine blk_drewN ?_ _ | refine blk_drew ?_ | refine blk_alloc ?_ _)); exact BK276.out) hb); have n1_ := Aside0.mk (blk_below (g := gb281) (o := .cells #[.int .i64 t277, .int .i64 t278, .int .u64 t279] 50 (0, 0)) (by (with_reducible repeat (first | refine blk_drewN ?_ _ | refine blk_drew ?_ | refine blk_alloc ?_ _)); exact BK281.out) hb); have n2_ := Aside0.mk (below_step (by repeat (first | (with_reducible first | exact HB.out | apply below_alloc | apply pw_below_drewN | apply below_drew1 | refine below_set ?_ GE276.out | refine below_set ?_ GE281.out) | exact HB.out)) hb); have n3_ := Aside0.mk (hbox); have n4_ := Aside0.mk ((by rw [hg]; exact (below_size (by repeat (first | (with_reducible first | exact HB.out | apply below_alloc | apply pw_below_drewN | apply below_drew1 | refine below_set ?_ GE276.out | refine below_set ?_ GE281.out) | exact HB.out))) : w.heap.size ≤ gb284)); have n5_ := Aside0.mk ((by rw [hg]; exact (below_size (by repeat (first | (with_reducible first | exact HB.out | apply below_alloc | apply pw_below_drewN | apply below_drew1 | refine below_set ?_ GE276.out | refine below_set ?_ GE281.out) | exact HB.out))) : w.heap.size ≤ gb284)); have n6_ := Aside0.mk ((by rw [hg]; exact Nat.ne_of_lt (blk_lt (g := gb276) (o := .cells #[.string (⟨#[]⟩ : ByteArray), .int .i64 0] 28 (0, 0)) (by (with_reducible repeat (first | refine blk_drewN ?_ _ | refine blk_drew ?_ | refine blk_alloc ?_ _)); exact BK276.out)) : gb276 ≠ gb284)); have n7_ := Aside0.mk ((by rw [hg]; exact Nat.ne_of_gt (blk_lt (g := gb276) (o := .cells #[.string (⟨#[]⟩ : ByteArray), .int .i64 0] 28 (0, 0)) (by (with_reducible repeat (first | refine blk_drewN ?_ _ | refine blk_drew ?_ | refine blk_alloc ?_ _)); exact BK276.out)) : gb284 ≠ gb276)); have n8_ := Aside0.mk ((by rw [hg]; exact Nat.ne_of_lt (blk_lt (g := gb281) (o := .cells #[.int .i64 t277, .int .i64 t278, .int .u64 t279] 50 (0, 0)) (by (with_reducible repeat (first | refine blk_drewN ?_ _ | refine blk_drew ?_ | refine blk_alloc ?_ _)); exact BK281.out)) : gb281 ≠ gb284)); have n9_ := Aside0.mk ((by rw [hg]; exact Nat.ne_of_gt (blk_lt (g := gb281) (o := .cells #[.int .i64 t277, .int .i64 t278, .int .u64 t279] 50 (0, 0)) (by (with_reducible repeat (first | refine blk_drewN ?_ _ | refine blk_drew ?_ | refine blk_alloc ?_ _)); exact BK281.out)) : gb284 ≠ gb281)); clear BK276; clear BK281; clear HB; have BK276 := n0_; have BK281 := n1_; have HB := n2_; have BK284 := n3_; have GW284 := n4_; have GE284 := n5_; have NB276_284 := n6_; have NB284_276 := n7_; have NB281_284 := n8_; have NB284_281 := n9_; clear n0_ n1_ n2_ n3_ n4_ n5_ n6_ n7_ n8_ n9_; clear hb hbox hg; have hnb34 := NB284_276.out; have hnc34 := NB276_284.out; have hnb35 := NB284_281.out; have hnc35 := NB281_284.out; have hcz36_0 : w33.cell? ⟨gb284, 0, none⟩ = some (.string (⟨#[]⟩ : ByteArray)) := (blk_cell BK284.out 0).trans rfl; have hcz36_1 : w33.cell? ⟨gb284, 1, none⟩ = some (.int .i64 0) := (blk_cell BK284.out 1).trans rfl; have hcz36_2 : w33.cell? ⟨gb284, 2, none⟩ = some (.string (⟨#[]⟩ : ByteArray)) := (blk_cell BK284.out 2).trans rfl; have hcz36_3 : w33.cell? ⟨gb284, 3, none⟩ = some (.int .i64 0) := (blk_cell BK284.out 3).trans rfl; have hcz36_4 : w33.cell? ⟨gb284, 4, none⟩ = some (.bool false) := (blk_cell BK284.out 4).trans rfl; have hfz36_0 := blk_frozen BK284.out 0; have hfz36_1 := blk_frozen BK284.out 1; have hfz36_2 := blk_frozen BK284.out 2; have hfz36_3 := blk_frozen BK284.out 3; have hfz36_4 := blk_frozen BK284.out 4) | ((with_reducible refine gate_callee (f := 25) rfl ?_); refine goesL_ (some 55) rfl rfl Tryd.func25 (by kernel_rfl) rfl #[.int .u64 (IntKind.u64.wrap ((IntKind.u64.wrap (2 * t282)) + 1)), .int .i64 (wrap64 (t283 - 1))] rfl (by (try simp only [List.map_toArray, List.map_cons, List.map_nil]); first | done | rfl | (simp only [List.length_drop, List.length_take]; rfl)) ?_; (with_reducible refine (bigdec_Exact.calls k (IntKind.u64.wrap ((IntKind.u64.wrap (2 * t282)) + 1)) (wrap64 (t283 - 1)) t285 t286 t287 _ A24.out).mono ?_); rintro e w37 ⟨rfl, hb⟩; refine ⟨_, rfl, ?_⟩; have n0_ := Aside0.mk (blk_below (g := gb276) (o := .cells #[.string (⟨#[]⟩ : ByteArray), .int .i64 0] 28 (0, 0)) (by (with_reducible repeat (first | refine blk_drewN ?_ _ | refine blk_drew ?_ | refine blk_alloc ?_ _)); refine blk_far ?_ NB276_284.out _; (with_reducible repeat (first | refine blk_drewN ?_ _ | refine blk_drew ?_ | refine blk_alloc ?_ _)); refine blk_far ?_ NB276_284.out _; (with_reducible repeat (first | refine blk_drewN ?_ _ | refine blk_drew ?_ | refine blk_alloc ?_ _)); refine blk_far ?_ NB276_284.out _; (with_reducible repeat (first | refine blk_drewN ?_ _ | refine blk_drew ?_ | refine blk_alloc ?_ _)); refine blk_far ?_ NB276_284.out _; (with_reducible repeat (first | refine blk_drewN ?_ _ | refine blk_drew ?_ | refine blk_alloc ?_ _)); refine blk_far ?_ NB276_284.out _; (with_reducible repeat (first | refine blk_drewN ?_ _ | refine blk_drew ?_ | refine blk_alloc ?_ _)); exact BK276.out) hb); have n1_ := Aside0.mk (blk_below (g := gb281) (o := .cells #[.int .i64 t277, .int .i64 t278, .int .u64 t279] 50 (0, 0)) (by (with_reducible repeat (first | refine blk_drewN ?_ _ | refine blk_drew ?_ | refine blk_alloc ?_ _)); refine blk_far ?_ NB281_284.out _; (with_reducible repeat (first | refine blk_drewN ?_ _ | refine blk_drew ?_ | refine blk_alloc ?_ _)); refine blk_far ?_ NB281_284.out _; (with_reducible repeat (first | refine blk_drewN ?_ _ | refine blk_drew ?_ | refine blk_alloc ?_ _)); refine blk_far ?_ NB281_284.out _; (with_reducible repeat (first | refine blk_drewN ?_ _ | refine blk_drew ?_ | refine blk_alloc ?_ _)); refine blk_far ?_ NB281_284.out _; (with_reducible repeat (first | refine blk_drewN ?_ _ | refine blk_drew ?_ | refine blk_alloc ?_ _)); refine blk_far ?_ NB281_284.out _; (with_reducible repeat (first | refine blk_drewN ?_ _ | refine blk_drew ?_ | refine blk_alloc ?_ _)); exact BK281.out) hb); have n2_ := Aside0.mk (blk_below (g := gb284) (o := .cells #[.string (⟨#[]⟩ : ByteArray), .int .i64 0, .string (⟨#[]⟩ : ByteArray), .int .i64 0, .bool ((Int.tmod t282 2) == 0)] 70 (0, 0)) (by (with_reducible repeat (first | refine blk_drewN ?_ _ | refine blk_drew ?_ | refine blk_alloc ?_ _)); refine blk_put (cs := #[.string (⟨#[]⟩ : ByteArray), .int .i64 0, .string (⟨#[]⟩ : ByteArray), .int .i64 0, .bool false]) ?_ 4 _ rfl; (with_reducible repeat (first | refine blk_drewN ?_ _ | refine blk_drew ?_ | refine blk_alloc ?_ _)); refine blk_put (cs := #[.string (⟨#[]⟩ : ByteArray), .int .i64 0, .string (⟨#[]⟩ : ByteArray), .int .i64 0, .bool false]) ?_ 3 _ rfl; (with_reducible repeat (first | refine blk_drewN ?_ _ | refine blk_drew ?_ | refine blk_alloc ?_ _)); refine blk_put (cs := #[.string (⟨#[]⟩ : ByteArray), .int .i64 0, .string (⟨#[]⟩ : ByteArray), .int .i64 0, .bool false]) ?_ 2 _ rfl; (with_reducible repeat (first | refine blk_drewN ?_ _ | refine blk_drew ?_ | refine blk_alloc ?_ _)); refine blk_put (cs := #[.string (⟨#[]⟩ : ByteArray), .int .i64 0, .string (⟨#[]⟩ : ByteArray), .int .i64 0, .bool false]) ?_ 1 _ rfl; (with_reducible repeat (first | refine blk_drewN ?_ _ | refine blk_drew ?_ | refine blk_alloc ?_ _)); refine blk_put (cs := #[.string (⟨#[]⟩ : ByteArray), .int .i64 0, .string (⟨#[]⟩ : ByteArray), .int .i64 0, .bool false]) ?_ 0 _ rfl; (with_reducible repeat (first | refine blk_drewN ?_ _ | refine blk_drew ?_ | refine blk_alloc ?_ _)); exact BK284.out) hb); have n3_ := Aside0.mk (below_step (by repeat (first | (with_reducible first | exact HB.out | apply below_alloc | apply pw_below_drewN | apply below_drew1 | refine below_set ?_ GE276.out | refine below_set ?_ GE281.out | refine below_set ?_ GE284.out) | exact HB.out)) hb); clear BK276; clear BK281; clear BK284; clear HB; have BK276 := n0_; have BK281 := n1_; have BK284 := n2_; have HB := n3_; clear n0_ n1_ n2_ n3_; (try clear hb); (try clear hb2); (try clear hk); (try clear hi); have hcz38_0 : w37.cell? ⟨gb284, 0, none⟩ = some (.string (⟨#[]⟩ : ByteArray)) := (blk_cell BK284.out 0).trans rfl; have hcz38_1 : w37.cell? ⟨gb284, 1, none⟩ = some (.int .i64 0) := (blk_cell BK284.out 1).trans rfl; have hcz38_2 : w37.cell? ⟨gb284, 2, none⟩ = some (.string (⟨#[]⟩ : ByteArray)) := (blk_cell BK284.out 2).trans rfl; have hcz38_3 : w37.cell? ⟨gb284, 3, none⟩ = some (.int .i64 0) := (blk_cell BK284.out 3).trans rfl; have hcz38_4 : w37.cell? ⟨gb284, 4, none⟩ = some (.bool ((Int.tmod t282 2) == 0)) := (blk_cell BK284.out 4).trans rfl; have hfz38_0 := blk_frozen BK284.out 0; have hfz38_1 := blk_frozen BK284.out 1; have hfz38_2 := blk_frozen BK284.out 2; have hfz38_3 := blk_frozen BK284.out 3; have hfz38_4 := blk_frozen BK284.out 4) | ((with_reducible refine gate_callee (f := 25) rfl ?_); refine goesL_ (some 65) rfl rfl Tryd.func25 (by kernel_rfl) rfl #[.int .u64 (IntKind.u64.wrap ((IntKind.u64.wrap (2 * t282)) - 1)), .int .i64 (wrap64 (t283 - 1))] rfl (by (try simp only [List.map_toArray, List.map_cons, List.map_nil]); first | done | rfl | (simp only [List.length_drop, List.length_take]; rfl)) ?_; (with_reducible refine (bigdec_Exact.calls k (IntKind.u64.wrap ((IntKind.u64.wrap (2 * t282)) - 1)) (wrap64 (t283 - 1)) t288 t289 t290 _ A25.out).mono ?_); rintro e w39 ⟨rfl, hb⟩; refine ⟨_, rfl, ?_⟩; have n0_ := Aside0.mk (blk_below (g := gb276) (o := .cells #[.string (⟨#[]⟩ : ByteArray), .int .i64 0] 28 (0, 0)) (by (with_reducible repeat (first | refine blk_drewN ?_ _ | refine blk_drew ?_ | refine blk_alloc ?_ _)); refine blk_far ?_ NB276_284.out _; (with_reducible repeat (first | refine blk_drewN ?_ _ | refine blk_drew ?_ | refine blk_alloc ?_ _)); refine blk_far ?_ NB276_284.out _; (with_reducible repeat (first | refine blk_drewN ?_ _ | refine blk_drew ?_ | refine blk_alloc ?_ _)); exact BK276.out) hb); have n1_ := Aside0.mk (blk_below (g := gb281) (o := .cells #[.int .i64 t277, .int .i64 t278, .int .u64 t279] 50 (0, 0)) (by (with_reducible repeat (first | refine blk_drewN ?_ _ | refine blk_drew ?_ | refine blk_alloc ?_ _)); refine blk_far ?_ NB281_284.out _; (with_reducible repeat (first | refine blk_drewN ?_ _ | refine blk_drew ?_ | refine blk_alloc ?_ _)); refine blk_far ?_ NB281_284.out _; (with_reducible repeat (first | refine blk_drewN ?_ _ | refine blk_drew ?_ | refine blk_alloc ?_ _)); exact BK281.out) hb); have n2_ := Aside0.mk (blk_below (g := gb284) (o := .cells #[.string (⟨#[]⟩ : ByteArray), .int .i64 0, .string t285, .int .i64 t286, .bool ((Int.tmod t282 2) == 0)] 70 (0, 0)) (by (with_reducible repeat (first | refine blk_drewN ?_ _ | refine blk_drew ?_ | refine blk_alloc ?_ _)); refine blk_put (cs := #[.string (⟨#[]⟩ : ByteArray), .int .i64 0, .string t285, .int .i64 0, .bool ((Int.tmod t282 2) == 0)]) ?_ 3 _ rfl; (with_reducible repeat (first | refine blk_drewN ?_ _ | refine blk_drew ?_ | refine blk_alloc ?_ _)); refine blk_put (cs := #[.string (⟨#[]⟩ : ByteArray), .int .i64 0, .string (⟨#[]⟩ : ByteArray), .int .i64 0, .bool ((Int.tmod t282 2) == 0)]) ?_ 2 _ rfl; (with_reducible repeat (first | refine blk_drewN ?_ _ | refine blk_drew ?_ | refine blk_alloc ?_ _)); exact BK284.out) hb); have n3_ := Aside0.mk (below_step (by repeat (first | (with_reducible first | exact HB.out | apply below_alloc | apply pw_below_drewN | apply below_drew1 | refine below_set ?_ GE276.out | refine below_set ?_ GE281.out | refine below_set ?_ GE284.out) | exact HB.out)) hb); clear BK276; clear BK281; clear BK284; clear HB; have BK276 := n0_; have BK281 := n1_; have BK284 := n2_; have HB := n3_; clear n0_ n1_ n2_ n3_; (try clear hb); (try clear hb2); (try clear hk); (try clear hi); have hcz40_0 : w39.cell? ⟨gb284, 0, none⟩ = some (.string (⟨#[]⟩ : ByteArray)) := (blk_cell BK284.out 0).trans rfl; have hcz40_1 : w39.cell? ⟨gb284, 1, none⟩ = some (.int .i64 0) := (blk_cell BK284.out 1).trans rfl; have hcz40_2 : w39.cell? ⟨gb284, 2, none⟩ = some (.string t285) := (blk_cell BK284.out 2).trans rfl; have hcz40_3 : w39.cell? ⟨gb284, 3, none⟩ = some (.int .i64 t286) := (blk_cell BK284.out 3).trans rfl; have hcz40_4 : w39.cell? ⟨gb284, 4, none⟩ = some (.bool ((Int.tmod t282 2) == 0)) := (blk_cell BK284.out 4).trans rfl; have hfz40_0 := blk_frozen BK284.out 0; have hfz40_1 := blk_frozen BK284.out 1; have hfz40_2 := blk_frozen BK284.out 2; have hfz40_3 := blk_frozen BK284.out 3; have hfz40_4 := blk_frozen BK284.out 4))
     (try simp only [Act.put, List.setIfInBounds_toArray, List.set_cons_zero, List.set_cons_succ])
     go_cut [79] (fun v79 wc => ∃ (kq : Nat) (x79_25 : Bool), v79 = .bool x79_25 ∧ Aside0 (short_Shortest.j0 kq (Go.bits .and .u64 a0 (IntKind.u64.wrap ((ji7) - 1))) t282 t283 x79_25 t277 t278 t279 t288 t289 t285 t286 ((Int.tmod t282 2) == 0) = some (r1, r2, r3)) ∧ Aside0 (kq ≤ k) ∧ Aside0 (wc.heap[gb276]? = some (.cells #[.string (⟨#[]⟩ : ByteArray), .int .i64 0] 28 (0, 0))) ∧ Aside0 (wc.heap[gb281]? = some (.cells #[.int .i64 t277, .int .i64 t278, .int .u64 t279] 50 (0, 0))) ∧ Aside0 (wc.heap[gb284]? = some (.cells #[.string t288, .int .i64 t289, .string t285, .int .i64 t286, .bool ((Int.tmod t282 2) == 0)] 70 (0, 0))) ∧ Aside0 (Below w.heap.size w wc))
     case first =>
      have H := HC26.out
      clear HC26
      by_cases c41 : 0 ≤ t277
      ·rw [if_pos c41] at H
       have c41b0 := eq_true c41
       have c41b1 : decide (0 ≤ t277) = true := decide_eq_true c41
       clear c41
       obtain ⟨ji42, hji42⟩ : ∃ j_ : Int, (shl .u64 1 t277) = j_ := ⟨_, rfl⟩
       replace H : (if t282 = (ji42) then (short_Shortest.j0 k (Go.bits .and .u64 a0 (IntKind.u64.wrap ((ji7) - 1))) t282 t283 (decide (t283 > t278)) t277 t278 t279 t288 t289 t285 t286 ((Int.tmod t282 2) == 0)) else (short_Shortest.j0 k (Go.bits .and .u64 a0 (IntKind.u64.wrap ((ji7) - 1))) t282 t283 false t277 t278 t279 t288 t289 t285 t286 ((Int.tmod t282 2) == 0))) = some (r1, r2, r3) := by first | (rw [hji42] at H; exact H) | (simp only [hji42] at H ⊢; exact H)
       have hji42_ : (IntKind.u64.wrap (1 * 2 ^ min t277.toNat 64)) = ji42 := hji42
       have hji42z : t277 ≤ 64 → (IntKind.u64.wrap (1 * 2 ^ t277.toNat)) = ji42 := shl_small hji42
       have hji42u : (IntKind.u64.wrap (2 ^ min t277.toNat 64)) = ji42 := by have h_ := hji42_; rw [Int.one_mul] at h_; exact h_
       have hji42v : t277 ≤ 64 → (IntKind.u64.wrap (2 ^ t277.toNat)) = ji42 := fun hle_ => by have h_ := hji42z hle_; rw [Int.one_mul] at h_; exact h_
       by_cases c43 : t282 = (ji42)
       ·rw [if_pos c43] at H
        have c43b0 : (t282 == (ji42)) = true := beq_iff_eq.mpr c43
        have c43b1 : (t282 != (ji42)) = false := bne_eq_false_iff_eq.mpr c43
        clear c43
        (first | rw [c43b0] | rw [c43b1] | (simp only [i64_w, i32_w]; rw [c43b0]) | skip)
        have H' := Aside0.mk H
        clear H
        have hnb44 := NB281_276.out
        have hnc44 := NB276_281.out
        have hnb45 := NB281_284.out
        have hnc45 := NB284_281.out
        have hcz46_0 : w39.cell? ⟨gb281, 0, none⟩ = some (.int .i64 t277) := (blk_cell BK281.out 0).trans rfl
        have hcz46_1 : w39.cell? ⟨gb281, 1, none⟩ = some (.int .i64 t278) := (blk_cell BK281.out 1).trans rfl
        have hcz46_2 : w39.cell? ⟨gb281, 2, none⟩ = some (.int .u64 t279) := (blk_cell BK281.out 2).trans rfl
        have hfz46_0 := blk_frozen BK281.out 0
        have hfz46_1 := blk_frozen BK281.out 1
        have hfz46_2 := blk_frozen BK281.out 2
        go_wp2
        go_meet
        case rel => exact ⟨_, (decide (t283 > t278)), (by first | rfl | (simp; done) | (simp [*]; done)), H', ⟨by first | omega | exact Nat.le_refl _⟩, ⟨by (with_reducible repeat (first | refine blk_drewN ?_ _ | refine blk_drew ?_ | refine blk_alloc ?_ _)); refine blk_far ?_ NB276_284.out _; (with_reducible repeat (first | refine blk_drewN ?_ _ | refine blk_drew ?_ | refine blk_alloc ?_ _)); refine blk_far ?_ NB276_284.out _; (with_reducible repeat (first | refine blk_drewN ?_ _ | refine blk_drew ?_ | refine blk_alloc ?_ _)); exact BK276.out⟩, ⟨by (with_reducible repeat (first | refine blk_drewN ?_ _ | refine blk_drew ?_ | refine blk_alloc ?_ _)); refine blk_far ?_ NB281_284.out _; (with_reducible repeat (first | refine blk_drewN ?_ _ | refine blk_drew ?_ | refine blk_alloc ?_ _)); refine blk_far ?_ NB281_284.out _; (with_reducible repeat (first | refine blk_drewN ?_ _ | refine blk_drew ?_ | refine blk_alloc ?_ _)); exact BK281.out⟩, ⟨by (with_reducible repeat (first | refine blk_drewN ?_ _ | refine blk_drew ?_ | refine blk_alloc ?_ _)); refine blk_put (cs := #[.string t288, .int .i64 0, .string t285, .int .i64 t286, .bool ((Int.tmod t282 2) == 0)]) ?_ 1 _ rfl; (with_reducible repeat (first | refine blk_drewN ?_ _ | refine blk_drew ?_ | refine blk_alloc ?_ _)); refine blk_put (cs := #[.string (⟨#[]⟩ : ByteArray), .int .i64 0, .string t285, .int .i64 t286, .bool ((Int.tmod t282 2) == 0)]) ?_ 0 _ rfl; (with_reducible repeat (first | refine blk_drewN ?_ _ | refine blk_drew ?_ | refine blk_alloc ?_ _)); exact BK284.out⟩, ⟨by repeat (first | (with_reducible first | exact HB.out | apply below_alloc | apply pw_below_drewN | apply below_drew1 | refine below_set ?_ GE276.out | refine below_set ?_ GE281.out | refine below_set ?_ GE284.out) | exact HB.out)⟩⟩
       ·rw [if_neg c43] at H
        have c43b0 : (t282 == (ji42)) = false := beq_eq_false_iff_ne.mpr c43
        have c43b1 : (t282 != (ji42)) = true := bne_iff_ne.mpr c43
        (first | rw [c43b0] | rw [c43b1] | (simp only [i64_w, i32_w]; rw [c43b0]) | skip)
        have H' := Aside0.mk H
        clear H
        have hnb47 := NB281_276.out
        have hnc47 := NB276_281.out
        have hnb48 := NB281_284.out
        have hnc48 := NB284_281.out
        have hcz49_0 : w39.cell? ⟨gb281, 0, none⟩ = some (.int .i64 t277) := (blk_cell BK281.out 0).trans rfl
        have hcz49_1 : w39.cell? ⟨gb281, 1, none⟩ = some (.int .i64 t278) := (blk_cell BK281.out 1).trans rfl
        have hcz49_2 : w39.cell? ⟨gb281, 2, none⟩ = some (.int .u64 t279) := (blk_cell BK281.out 2).trans rfl
        have hfz49_0 := blk_frozen BK281.out 0
        have hfz49_1 := blk_frozen BK281.out 1
        have hfz49_2 := blk_frozen BK281.out 2
        go_wp2
        go_meet
        case rel => exact ⟨_, (false), (by first | rfl | (simp; done) | (simp [*]; done)), H', ⟨by first | omega | exact Nat.le_refl _⟩, ⟨by (with_reducible repeat (first | refine blk_drewN ?_ _ | refine blk_drew ?_ | refine blk_alloc ?_ _)); refine blk_far ?_ NB276_284.out _; (with_reducible repeat (first | refine blk_drewN ?_ _ | refine blk_drew ?_ | refine blk_alloc ?_ _)); refine blk_far ?_ NB276_284.out _; (with_reducible repeat (first | refine blk_drewN ?_ _ | refine blk_drew ?_ | refine blk_alloc ?_ _)); exact BK276.out⟩, ⟨by (with_reducible repeat (first | refine blk_drewN ?_ _ | refine blk_drew ?_ | refine blk_alloc ?_ _)); refine blk_far ?_ NB281_284.out _; (with_reducible repeat (first | refine blk_drewN ?_ _ | refine blk_drew ?_ | refine blk_alloc ?_ _)); refine blk_far ?_ NB281_284.out _; (with_reducible repeat (first | refine blk_drewN ?_ _ | refine blk_drew ?_ | refine blk_alloc ?_ _)); exact BK281.out⟩, ⟨by (with_reducible repeat (first | refine blk_drewN ?_ _ | refine blk_drew ?_ | refine blk_alloc ?_ _)); refine blk_put (cs := #[.string t288, .int .i64 0, .string t285, .int .i64 t286, .bool ((Int.tmod t282 2) == 0)]) ?_ 1 _ rfl; (with_reducible repeat (first | refine blk_drewN ?_ _ | refine blk_drew ?_ | refine blk_alloc ?_ _)); refine blk_put (cs := #[.string (⟨#[]⟩ : ByteArray), .int .i64 0, .string t285, .int .i64 t286, .bool ((Int.tmod t282 2) == 0)]) ?_ 0 _ rfl; (with_reducible repeat (first | refine blk_drewN ?_ _ | refine blk_drew ?_ | refine blk_alloc ?_ _)); exact BK284.out⟩, ⟨by repeat (first | (with_reducible first | exact HB.out | apply below_alloc | apply pw_below_drewN | apply below_drew1 | refine below_set ?_ GE276.out | refine below_set ?_ GE281.out | refine below_set ?_ GE284.out) | exact HB.out)⟩⟩
      ·rw [if_neg c41] at H
       exact absurd H (by simp)
     case rest =>
      clear HC26
      try clear c4
      try clear c6
      try clear c6b0
      try clear c6b1
      try clear c8
      try clear c8b0
      try clear c16
      try clear c16b0
      try clear c16b1
      try clear c41
      try clear c41b0
      try clear c41b1
      try clear c43
      try clear c43b0
      try clear c43b1
      try clear hcz13_0
      try clear hcz13_1
      try clear hcz13_2
      try clear hcz14_0
      try clear hcz14_1
      try clear hcz21_0
      try clear hcz21_1
      try clear hcz21_2
      try clear hcz23_0
      try clear hcz23_1
      try clear hcz31_0
      try clear hcz31_1
      try clear hcz31_2
      try clear hcz36_0
      try clear hcz36_1
      try clear hcz36_2
      try clear hcz36_3
      try clear hcz36_4
      try clear hcz38_0
      try clear hcz38_1
      try clear hcz38_2
      try clear hcz38_3
      try clear hcz38_4
      try clear hcz40_0
      try clear hcz40_1
      try clear hcz40_2
      try clear hcz40_3
      try clear hcz40_4
      try clear hcz46_0
      try clear hcz46_1
      try clear hcz46_2
      try clear hcz49_0
      try clear hcz49_1
      try clear hcz49_2
      try clear hfz13_0
      try clear hfz13_1
      try clear hfz13_2
      try clear hfz14_0
      try clear hfz14_1
      try clear hfz21_0
      try clear hfz21_1
      try clear hfz21_2
      try clear hfz23_0
      try clear hfz23_1
      try clear hfz31_0
      try clear hfz31_1
      try clear hfz31_2
      try clear hfz36_0
      try clear hfz36_1
      try clear hfz36_2
      try clear hfz36_3
      try clear hfz36_4
      try clear hfz38_0
      try clear hfz38_1
      try clear hfz38_2
      try clear hfz38_3
      try clear hfz38_4
      try clear hfz40_0
      try clear hfz40_1
      try clear hfz40_2
      try clear hfz40_3
      try clear hfz40_4
      try clear hfz46_0
      try clear hfz46_1
      try clear hfz46_2
      try clear hfz49_0
      try clear hfz49_1
      try clear hfz49_2
      obtain ⟨kq, x79_25, rfl, HA, HJ25, BK276, BK281, BK284, HB⟩ := hcut
      cases kq with
      | zero => exact absurd HA.out (by simp [short_Shortest.j0])
      | succ kj25 =>
       have H := HA.out
       clear HA
       simp only [short_Shortest.j0] at H
       have HC50 := Aside0.mk H
       clear H
       go_upto_if 79 with (fail)
       go_cut [] (fun wc => ∃ (kq : Nat) (x285000_49 : ByteArray) (x285001_49 : Int), Aside0 (short_Shortest.j1 kq (Go.bits .and .u64 a0 (IntKind.u64.wrap ((ji7) - 1))) t277 t278 t279 x285000_49 x285001_49 t285 t286 ((Int.tmod t282 2) == 0) = some (r1, r2, r3)) ∧ Aside0 (kq ≤ kj25) ∧ Aside0 (wc.heap[gb276]? = some (.cells #[.string (⟨#[]⟩ : ByteArray), .int .i64 0] 28 (0, 0))) ∧ Aside0 (wc.heap[gb281]? = some (.cells #[.int .i64 t277, .int .i64 t278, .int .u64 t279] 50 (0, 0))) ∧ Aside0 (wc.heap[gb284]? = some (.cells #[.string x285000_49, .int .i64 x285001_49, .string t285, .int .i64 t286, .bool ((Int.tmod t282 2) == 0)] 70 (0, 0))) ∧ Aside0 (Below w.heap.size w wc))
       case first =>
        have H := HC50.out
        clear HC50
        by_cases c51 : x79_25 = true
        ·subst c51
         have H1 : ((bigdec_Exact.f kj25 (IntKind.u64.wrap ((IntKind.u64.wrap (4 * t282)) - 1)) (wrap64 (t283 - 2))).bind fun bt291 => (short_Shortest.j1 kj25 (Go.bits .and .u64 a0 (IntKind.u64.wrap ((ji7) - 1))) t277 t278 t279 bt291.1 bt291.2.1 t285 t286 ((Int.tmod t282 2) == 0))) = some (r1, r2, r3) := by rw [if_pos rfl] at H; exact H
         clear H
         have H := H1
         clear H1
         replace H := Option.bind_eq_some_iff.mp H
         obtain ⟨⟨t291, t292, t293⟩, A520, H⟩ := H
         replace H : (short_Shortest.j1 kj25 (Go.bits .and .u64 a0 (IntKind.u64.wrap ((ji7) - 1))) t277 t278 t279 t291 t292 t285 t286 ((Int.tmod t282 2) == 0)) = some (r1, r2, r3) := H
         have A52 := Aside0.mk A520
         clear A520
         have H' := Aside0.mk H
         clear H
         go_wp2_with (first | ((with_reducible refine gate_callee (f := 25) rfl ?_); refine goesL_ (some 86) rfl rfl Tryd.func25 (by kernel_rfl) rfl #[.int .u64 (IntKind.u64.wrap ((IntKind.u64.wrap (4 * t282)) - 1)), .int .i64 (wrap64 (t283 - 2))] rfl (by (try simp only [List.map_toArray, List.map_cons, List.map_nil]); first | done | rfl | (simp only [List.length_drop, List.length_take]; rfl)) ?_; (with_reducible refine (bigdec_Exact.calls kj25 (IntKind.u64.wrap ((IntKind.u64.wrap (4 * t282)) - 1)) (wrap64 (t283 - 2)) t291 t292 t293 _ A52.out).mono ?_); rintro e w53 ⟨rfl, hb⟩; refine ⟨_, rfl, ?_⟩; have n0_ := Aside0.mk (blk_below (g := gb276) (o := .cells #[.string (⟨#[]⟩ : ByteArray), .int .i64 0] 28 (0, 0)) (by (with_reducible repeat (first | refine blk_drewN ?_ _ | refine blk_drew ?_ | refine blk_alloc ?_ _)); exact BK276.out) hb); have n1_ := Aside0.mk (blk_below (g := gb281) (o := .cells #[.int .i64 t277, .int .i64 t278, .int .u64 t279] 50 (0, 0)) (by (with_reducible repeat (first | refine blk_drewN ?_ _ | refine blk_drew ?_ | refine blk_alloc ?_ _)); exact BK281.out) hb); have n2_ := Aside0.mk (blk_below (g := gb284) (o := .cells #[.string t288, .int .i64 t289, .string t285, .int .i64 t286, .bool ((Int.tmod t282 2) == 0)] 70 (0, 0)) (by (with_reducible repeat (first | refine blk_drewN ?_ _ | refine blk_drew ?_ | refine blk_alloc ?_ _)); exact BK284.out) hb); have n3_ := Aside0.mk (below_step (by repeat (first | (with_reducible first | exact HB.out | apply below_alloc | apply pw_below_drewN | apply below_drew1 | refine below_set ?_ GE276.out | refine below_set ?_ GE281.out | refine below_set ?_ GE284.out) | exact HB.out)) hb); clear BK276; clear BK281; clear BK284; clear HB; have BK276 := n0_; have BK281 := n1_; have BK284 := n2_; have HB := n3_; clear n0_ n1_ n2_ n3_; (try clear hb); (try clear hb2); (try clear hk); (try clear hi); have hnb54 := NB284_276.out; have hnc54 := NB276_284.out; have hnb55 := NB284_281.out; have hnc55 := NB281_284.out; have hcz56_0 : w53.cell? ⟨gb284, 0, none⟩ = some (.string t288) := (blk_cell BK284.out 0).trans rfl; have hcz56_1 : w53.cell? ⟨gb284, 1, none⟩ = some (.int .i64 t289) := (blk_cell BK284.out 1).trans rfl; have hcz56_2 : w53.cell? ⟨gb284, 2, none⟩ = some (.string t285) := (blk_cell BK284.out 2).trans rfl; have hcz56_3 : w53.cell? ⟨gb284, 3, none⟩ = some (.int .i64 t286) := (blk_cell BK284.out 3).trans rfl; have hcz56_4 : w53.cell? ⟨gb284, 4, none⟩ = some (.bool ((Int.tmod t282 2) == 0)) := (blk_cell BK284.out 4).trans rfl; have hfz56_0 := blk_frozen BK284.out 0; have hfz56_1 := blk_frozen BK284.out 1; have hfz56_2 := blk_frozen BK284.out 2; have hfz56_3 := blk_frozen BK284.out 3; have hfz56_4 := blk_frozen BK284.out 4))
         go_meet
         case rel => exact ⟨_, (t291), (t292), H', ⟨by have := HJ25.out; first | omega | exact Nat.le_refl _⟩, ⟨by (with_reducible repeat (first | refine blk_drewN ?_ _ | refine blk_drew ?_ | refine blk_alloc ?_ _)); refine blk_far ?_ NB276_284.out _; (with_reducible repeat (first | refine blk_drewN ?_ _ | refine blk_drew ?_ | refine blk_alloc ?_ _)); refine blk_far ?_ NB276_284.out _; (with_reducible repeat (first | refine blk_drewN ?_ _ | refine blk_drew ?_ | refine blk_alloc ?_ _)); exact BK276.out⟩, ⟨by (with_reducible repeat (first | refine blk_drewN ?_ _ | refine blk_drew ?_ | refine blk_alloc ?_ _)); refine blk_far ?_ NB281_284.out _; (with_reducible repeat (first | refine blk_drewN ?_ _ | refine blk_drew ?_ | refine blk_alloc ?_ _)); refine blk_far ?_ NB281_284.out _; (with_reducible repeat (first | refine blk_drewN ?_ _ | refine blk_drew ?_ | refine blk_alloc ?_ _)); exact BK281.out⟩, ⟨by (with_reducible repeat (first | refine blk_drewN ?_ _ | refine blk_drew ?_ | refine blk_alloc ?_ _)); refine blk_put (cs := #[.string t291, .int .i64 t289, .string t285, .int .i64 t286, .bool ((Int.tmod t282 2) == 0)]) ?_ 1 _ rfl; (with_reducible repeat (first | refine blk_drewN ?_ _ | refine blk_drew ?_ | refine blk_alloc ?_ _)); refine blk_put (cs := #[.string t288, .int .i64 t289, .string t285, .int .i64 t286, .bool ((Int.tmod t282 2) == 0)]) ?_ 0 _ rfl; (with_reducible repeat (first | refine blk_drewN ?_ _ | refine blk_drew ?_ | refine blk_alloc ?_ _)); exact BK284.out⟩, ⟨by repeat (first | (with_reducible first | exact HB.out | apply below_alloc | apply pw_below_drewN | apply below_drew1 | refine below_set ?_ GE276.out | refine below_set ?_ GE281.out | refine below_set ?_ GE284.out) | exact HB.out)⟩⟩
        ·replace c51 := Bool.eq_false_iff.mpr c51
         subst c51
         have H1 : (short_Shortest.j1 kj25 (Go.bits .and .u64 a0 (IntKind.u64.wrap ((ji7) - 1))) t277 t278 t279 t288 t289 t285 t286 ((Int.tmod t282 2) == 0)) = some (r1, r2, r3) := by rw [if_neg (show ¬ (false = true) by decide)] at H; exact H
         clear H
         have H := H1
         clear H1
         have H' := Aside0.mk H
         clear H
         go_wp2
         go_meet
         case rel => exact ⟨_, (t288), (t289), H', ⟨by have := HJ25.out; first | omega | exact Nat.le_refl _⟩, ⟨by (with_reducible repeat (first | refine blk_drewN ?_ _ | refine blk_drew ?_ | refine blk_alloc ?_ _)); exact BK276.out⟩, ⟨by (with_reducible repeat (first | refine blk_drewN ?_ _ | refine blk_drew ?_ | refine blk_alloc ?_ _)); exact BK281.out⟩, ⟨by (with_reducible repeat (first | refine blk_drewN ?_ _ | refine blk_drew ?_ | refine blk_alloc ?_ _)); exact BK284.out⟩, ⟨by repeat (first | (with_reducible first | exact HB.out | apply below_alloc | apply pw_below_drewN | apply below_drew1 | refine below_set ?_ GE276.out | refine below_set ?_ GE281.out | refine below_set ?_ GE284.out) | exact HB.out)⟩⟩
       case rest =>
        clear HC50
        try clear c4
        try clear c6
        try clear c6b0
        try clear c6b1
        try clear c8
        try clear c8b0
        try clear c16
        try clear c16b0
        try clear c16b1
        try clear c41
        try clear c41b0
        try clear c41b1
        try clear c43
        try clear c43b0
        try clear c43b1
        try clear c51
        try clear hcz13_0
        try clear hcz13_1
        try clear hcz13_2
        try clear hcz14_0
        try clear hcz14_1
        try clear hcz21_0
        try clear hcz21_1
        try clear hcz21_2
        try clear hcz23_0
        try clear hcz23_1
        try clear hcz31_0
        try clear hcz31_1
        try clear hcz31_2
        try clear hcz36_0
        try clear hcz36_1
        try clear hcz36_2
        try clear hcz36_3
        try clear hcz36_4
        try clear hcz38_0
        try clear hcz38_1
        try clear hcz38_2
        try clear hcz38_3
        try clear hcz38_4
        try clear hcz40_0
        try clear hcz40_1
        try clear hcz40_2
        try clear hcz40_3
        try clear hcz40_4
        try clear hcz46_0
        try clear hcz46_1
        try clear hcz46_2
        try clear hcz49_0
        try clear hcz49_1
        try clear hcz49_2
        try clear hcz56_0
        try clear hcz56_1
        try clear hcz56_2
        try clear hcz56_3
        try clear hcz56_4
        try clear hfz13_0
        try clear hfz13_1
        try clear hfz13_2
        try clear hfz14_0
        try clear hfz14_1
        try clear hfz21_0
        try clear hfz21_1
        try clear hfz21_2
        try clear hfz23_0
        try clear hfz23_1
        try clear hfz31_0
        try clear hfz31_1
        try clear hfz31_2
        try clear hfz36_0
        try clear hfz36_1
        try clear hfz36_2
        try clear hfz36_3
        try clear hfz36_4
        try clear hfz38_0
        try clear hfz38_1
        try clear hfz38_2
        try clear hfz38_3
        try clear hfz38_4
        try clear hfz40_0
        try clear hfz40_1
        try clear hfz40_2
        try clear hfz40_3
        try clear hfz40_4
        try clear hfz46_0
        try clear hfz46_1
        try clear hfz46_2
        try clear hfz49_0
        try clear hfz49_1
        try clear hfz49_2
        try clear hfz56_0
        try clear hfz56_1
        try clear hfz56_2
        try clear hfz56_3
        try clear hfz56_4
        obtain ⟨kq, x285000_49, x285001_49, HA, HJ49, BK276, BK281, BK284, HB⟩ := hcut
        cases kq with
        | zero => exact absurd HA.out (by simp [short_Shortest.j1])
        | succ kj49 =>
         have H := HA.out
         clear HA
         simp only [short_Shortest.j1] at H
         replace H := Option.bind_eq_some_iff.mp H
         obtain ⟨⟨t294, t295⟩, A570, H⟩ := H
         replace H : (short_Shortest.l0 kj49 1 t294 t295 x285000_49 x285001_49 t285 t286 ((Int.tmod t282 2) == 0)) = some (r1, r2, r3) := H
         have A57 := Aside0.mk A570
         clear A570
         have H' := Aside0.mk H
         clear H
         have hnb58 := NB281_276.out
         have hnc58 := NB276_281.out
         have hnb59 := NB281_284.out
         have hnc59 := NB284_281.out
         have hcz60_0 : wc.cell? ⟨gb281, 0, none⟩ = some (.int .i64 t277) := (blk_cell BK281.out 0).trans rfl
         have hcz60_1 : wc.cell? ⟨gb281, 1, none⟩ = some (.int .i64 t278) := (blk_cell BK281.out 1).trans rfl
         have hcz60_2 : wc.cell? ⟨gb281, 2, none⟩ = some (.int .u64 t279) := (blk_cell BK281.out 2).trans rfl
         have hfz60_0 := blk_frozen BK281.out 0
         have hfz60_1 := blk_frozen BK281.out 1
         have hfz60_2 := blk_frozen BK281.out 2
         go_wp2_with (first | ((with_reducible refine gate_callee (f := 35) rfl ?_); refine goesL_ (some 92) rfl rfl Tryd.func35 (by kernel_rfl) rfl #[.agg #[.int .i64 t277, .int .i64 t278, .int .u64 t279], .int .u64 (Go.bits .and .u64 a0 (IntKind.u64.wrap ((ji7) - 1)))] rfl (by (try simp only [List.map_toArray, List.map_cons, List.map_nil]); first | done | (simp only [hji7]; rfl) | rfl | (simp only [List.length_drop, List.length_take]; rfl)) ?_; (with_reducible refine (short_shape_exact.calls kj49 t277 t278 t279 (Go.bits .and .u64 a0 (IntKind.u64.wrap ((ji7) - 1))) t294 t295 _ A57.out).mono ?_); rintro e w61 ⟨rfl, hb⟩; refine ⟨_, rfl, ?_⟩; have n0_ := Aside0.mk (blk_below (g := gb276) (o := .cells #[.string (⟨#[]⟩ : ByteArray), .int .i64 0] 28 (0, 0)) (by (with_reducible repeat (first | refine blk_drewN ?_ _ | refine blk_drew ?_ | refine blk_alloc ?_ _)); exact BK276.out) hb); have n1_ := Aside0.mk (blk_below (g := gb281) (o := .cells #[.int .i64 t277, .int .i64 t278, .int .u64 t279] 50 (0, 0)) (by (with_reducible repeat (first | refine blk_drewN ?_ _ | refine blk_drew ?_ | refine blk_alloc ?_ _)); exact BK281.out) hb); have n2_ := Aside0.mk (blk_below (g := gb284) (o := .cells #[.string x285000_49, .int .i64 x285001_49, .string t285, .int .i64 t286, .bool ((Int.tmod t282 2) == 0)] 70 (0, 0)) (by (with_reducible repeat (first | refine blk_drewN ?_ _ | refine blk_drew ?_ | refine blk_alloc ?_ _)); exact BK284.out) hb); have n3_ := Aside0.mk (below_step (by repeat (first | (with_reducible first | exact HB.out | apply below_alloc | apply pw_below_drewN | apply below_drew1 | refine below_set ?_ GE276.out | refine below_set ?_ GE281.out | refine below_set ?_ GE284.out) | exact HB.out)) hb); clear BK276; clear BK281; clear BK284; clear HB; have BK276 := n0_; have BK281 := n1_; have BK284 := n2_; have HB := n3_; clear n0_ n1_ n2_ n3_; (try clear hb); (try clear hb2); (try clear hk); (try clear hi)) | ((with_reducible refine gate_dst (N := 12) rfl ?_); refine box_event ?hg (N := 12) ?hd (cs := #[.string (⟨#[]⟩ : ByteArray), .int .i64 0]) (t := 28) ?hr ?_; (case hd => rfl); (case hg => rfl); (case hr => first | (go_simp; done) | (go_simp; rfl)); intro gb296 hg w62 hbox hb; have n0_ := Aside0.mk (blk_below (g := gb276) (o := .cells #[.string (⟨#[]⟩ : ByteArray), .int .i64 0] 28 (0, 0)) (by (with_reducible repeat (first | refine blk_drewN ?_ _ | refine blk_drew ?_ | refine blk_alloc ?_ _)); exact BK276.out) hb); have n1_ := Aside0.mk (blk_below (g := gb281) (o := .cells #[.int .i64 t277, .int .i64 t278, .int .u64 t279] 50 (0, 0)) (by (with_reducible repeat (first | refine blk_drewN ?_ _ | refine blk_drew ?_ | refine blk_alloc ?_ _)); exact BK281.out) hb); have n2_ := Aside0.mk (blk_below (g := gb284) (o := .cells #[.string x285000_49, .int .i64 x285001_49, .string t285, .int .i64 t286, .bool ((Int.tmod t282 2) == 0)] 70 (0, 0)) (by (with_reducible repeat (first | refine blk_drewN ?_ _ | refine blk_drew ?_ | refine blk_alloc ?_ _)); exact BK284.out) hb); have n3_ := Aside0.mk (below_step (by repeat (first | (with_reducible first | exact HB.out | apply below_alloc | apply pw_below_drewN | apply below_drew1 | refine below_set ?_ GE276.out | refine below_set ?_ GE281.out | refine below_set ?_ GE284.out) | exact HB.out)) hb); have n4_ := Aside0.mk (hbox); have n5_ := Aside0.mk ((by rw [hg]; exact (below_size (by repeat (first | (with_reducible first | exact HB.out | apply below_alloc | apply pw_below_drewN | apply below_drew1 | refine below_set ?_ GE276.out | refine below_set ?_ GE281.out | refine below_set ?_ GE284.out) | exact HB.out))) : w.heap.size ≤ gb296)); have n6_ := Aside0.mk ((by rw [hg]; exact (below_size (by repeat (first | (with_reducible first | exact HB.out | apply below_alloc | apply pw_below_drewN | apply below_drew1 | refine below_set ?_ GE276.out | refine below_set ?_ GE281.out | refine below_set ?_ GE284.out) | exact HB.out))) : w.heap.size ≤ gb296)); have n7_ := Aside0.mk ((by rw [hg]; exact Nat.ne_of_lt (blk_lt (g := gb276) (o := .cells #[.string (⟨#[]⟩ : ByteArray), .int .i64 0] 28 (0, 0)) (by (with_reducible repeat (first | refine blk_drewN ?_ _ | refine blk_drew ?_ | refine blk_alloc ?_ _)); exact BK276.out)) : gb276 ≠ gb296)); have n8_ := Aside0.mk ((by rw [hg]; exact Nat.ne_of_gt (blk_lt (g := gb276) (o := .cells #[.string (⟨#[]⟩ : ByteArray), .int .i64 0] 28 (0, 0)) (by (with_reducible repeat (first | refine blk_drewN ?_ _ | refine blk_drew ?_ | refine blk_alloc ?_ _)); exact BK276.out)) : gb296 ≠ gb276)); have n9_ := Aside0.mk ((by rw [hg]; exact Nat.ne_of_lt (blk_lt (g := gb281) (o := .cells #[.int .i64 t277, .int .i64 t278, .int .u64 t279] 50 (0, 0)) (by (with_reducible repeat (first | refine blk_drewN ?_ _ | refine blk_drew ?_ | refine blk_alloc ?_ _)); exact BK281.out)) : gb281 ≠ gb296)); have n10_ := Aside0.mk ((by rw [hg]; exact Nat.ne_of_gt (blk_lt (g := gb281) (o := .cells #[.int .i64 t277, .int .i64 t278, .int .u64 t279] 50 (0, 0)) (by (with_reducible repeat (first | refine blk_drewN ?_ _ | refine blk_drew ?_ | refine blk_alloc ?_ _)); exact BK281.out)) : gb296 ≠ gb281)); have n11_ := Aside0.mk ((by rw [hg]; exact Nat.ne_of_lt (blk_lt (g := gb284) (o := .cells #[.string x285000_49, .int .i64 x285001_49, .string t285, .int .i64 t286, .bool ((Int.tmod t282 2) == 0)] 70 (0, 0)) (by (with_reducible repeat (first | refine blk_drewN ?_ _ | refine blk_drew ?_ | refine blk_alloc ?_ _)); exact BK284.out)) : gb284 ≠ gb296)); have n12_ := Aside0.mk ((by rw [hg]; exact Nat.ne_of_gt (blk_lt (g := gb284) (o := .cells #[.string x285000_49, .int .i64 x285001_49, .string t285, .int .i64 t286, .bool ((Int.tmod t282 2) == 0)] 70 (0, 0)) (by (with_reducible repeat (first | refine blk_drewN ?_ _ | refine blk_drew ?_ | refine blk_alloc ?_ _)); exact BK284.out)) : gb296 ≠ gb284)); clear BK276; clear BK281; clear BK284; clear HB; have BK276 := n0_; have BK281 := n1_; have BK284 := n2_; have HB := n3_; have BK296 := n4_; have GW296 := n5_; have GE296 := n6_; have NB276_296 := n7_; have NB296_276 := n8_; have NB281_296 := n9_; have NB296_281 := n10_; have NB284_296 := n11_; have NB296_284 := n12_; clear n0_ n1_ n2_ n3_ n4_ n5_ n6_ n7_ n8_ n9_ n10_ n11_ n12_; clear hb hbox hg; have hnb63 := NB296_276.out; have hnc63 := NB276_296.out; have hnb64 := NB296_281.out; have hnc64 := NB281_296.out; have hnb65 := NB296_284.out; have hnc65 := NB284_296.out; have hcz66_0 : w62.cell? ⟨gb296, 0, none⟩ = some (.string (⟨#[]⟩ : ByteArray)) := (blk_cell BK296.out 0).trans rfl; have hcz66_1 : w62.cell? ⟨gb296, 1, none⟩ = some (.int .i64 0) := (blk_cell BK296.out 1).trans rfl; have hfz66_0 := blk_frozen BK296.out 0; have hfz66_1 := blk_frozen BK296.out 1; have hnb67 := NB284_276.out; have hnc67 := NB276_284.out; have hcz68_0 : w62.cell? ⟨gb284, 0, none⟩ = some (.string x285000_49) := (blk_cell BK284.out 0).trans rfl; have hcz68_1 : w62.cell? ⟨gb284, 1, none⟩ = some (.int .i64 x285001_49) := (blk_cell BK284.out 1).trans rfl; have hcz68_2 : w62.cell? ⟨gb284, 2, none⟩ = some (.string t285) := (blk_cell BK284.out 2).trans rfl; have hcz68_3 : w62.cell? ⟨gb284, 3, none⟩ = some (.int .i64 t286) := (blk_cell BK284.out 3).trans rfl; have hcz68_4 : w62.cell? ⟨gb284, 4, none⟩ = some (.bool ((Int.tmod t282 2) == 0)) := (blk_cell BK284.out 4).trans rfl; have hfz68_0 := blk_frozen BK284.out 0; have hfz68_1 := blk_frozen BK284.out 1; have hfz68_2 := blk_frozen BK284.out 2; have hfz68_3 := blk_frozen BK284.out 3; have hfz68_4 := blk_frozen BK284.out 4))
         go_loopg [14] kj49 (fun kq v14 w' => ∃ (x14_3 : Int) (x277000_3 : ByteArray) (x277001_3 : Int), v14 = .int .i64 x14_3 ∧ Aside0 (short_Shortest.l0 kq x14_3 t294 t295 x285000_49 x285001_49 t285 t286 ((Int.tmod t282 2) == 0) = some (r1, r2, r3)) ∧ Aside0 (kq ≤ kj49) ∧ Aside0 (w'.heap[gb276]? = some (.cells #[.string x277000_3, .int .i64 x277001_3] 28 (0, 0))) ∧ Aside0 (w'.heap[gb281]? = some (.cells #[.int .i64 t277, .int .i64 t278, .int .u64 t279] 50 (0, 0))) ∧ Aside0 (w'.heap[gb284]? = some (.cells #[.string x285000_49, .int .i64 x285001_49, .string t285, .int .i64 t286, .bool ((Int.tmod t282 2) == 0)] 70 (0, 0))) ∧ Aside0 (w'.heap[gb296]? = some (.cells #[.string t294, .int .i64 t295] 28 (0, 0))) ∧ Aside0 (Below w.heap.size w w'))
         case atStart => exact ⟨(1), ((⟨#[]⟩ : ByteArray)), (0), (by first | rfl | (simp; done) | (simp [*]; done)), H', ⟨Nat.le_refl _⟩, ⟨by (with_reducible repeat (first | refine blk_drewN ?_ _ | refine blk_drew ?_ | refine blk_alloc ?_ _)); refine blk_far ?_ NB276_296.out _; (with_reducible repeat (first | refine blk_drewN ?_ _ | refine blk_drew ?_ | refine blk_alloc ?_ _)); refine blk_far ?_ NB276_296.out _; (with_reducible repeat (first | refine blk_drewN ?_ _ | refine blk_drew ?_ | refine blk_alloc ?_ _)); exact BK276.out⟩, ⟨by (with_reducible repeat (first | refine blk_drewN ?_ _ | refine blk_drew ?_ | refine blk_alloc ?_ _)); refine blk_far ?_ NB281_296.out _; (with_reducible repeat (first | refine blk_drewN ?_ _ | refine blk_drew ?_ | refine blk_alloc ?_ _)); refine blk_far ?_ NB281_296.out _; (with_reducible repeat (first | refine blk_drewN ?_ _ | refine blk_drew ?_ | refine blk_alloc ?_ _)); exact BK281.out⟩, ⟨by (with_reducible repeat (first | refine blk_drewN ?_ _ | refine blk_drew ?_ | refine blk_alloc ?_ _)); refine blk_far ?_ NB284_296.out _; (with_reducible repeat (first | refine blk_drewN ?_ _ | refine blk_drew ?_ | refine blk_alloc ?_ _)); refine blk_far ?_ NB284_296.out _; (with_reducible repeat (first | refine blk_drewN ?_ _ | refine blk_drew ?_ | refine blk_alloc ?_ _)); exact BK284.out⟩, ⟨by (with_reducible repeat (first | refine blk_drewN ?_ _ | refine blk_drew ?_ | refine blk_alloc ?_ _)); refine blk_put (cs := #[.string t294, .int .i64 0]) ?_ 1 _ rfl; (with_reducible repeat (first | refine blk_drewN ?_ _ | refine blk_drew ?_ | refine blk_alloc ?_ _)); refine blk_put (cs := #[.string (⟨#[]⟩ : ByteArray), .int .i64 0]) ?_ 0 _ rfl; (with_reducible repeat (first | refine blk_drewN ?_ _ | refine blk_drew ?_ | refine blk_alloc ?_ _)); exact BK296.out⟩, ⟨by repeat (first | (with_reducible first | exact HB.out | apply below_alloc | apply pw_below_drewN | apply below_drew1 | refine below_set ?_ GE276.out | refine below_set ?_ GE281.out | refine below_set ?_ GE284.out | refine below_set ?_ GE296.out) | exact HB.out)⟩⟩
         case round =>
          clear H'
          try clear c4
          try clear c6
          try clear c6b0
          try clear c6b1
          try clear c8
          try clear c8b0
          try clear c16
          try clear c16b0
          try clear c16b1
          try clear c41
          try clear c41b0
          try clear c41b1
          try clear c43
          try clear c43b0
          try clear c43b1
          try clear c51
          try clear hcz13_0
          try clear hcz13_1
          try clear hcz13_2
          try clear hcz14_0
          try clear hcz14_1
          try clear hcz21_0
          try clear hcz21_1
          try clear hcz21_2
          try clear hcz23_0
          try clear hcz23_1
          try clear hcz31_0
          try clear hcz31_1
          try clear hcz31_2
          try clear hcz36_0
          try clear hcz36_1
          try clear hcz36_2
          try clear hcz36_3
          try clear hcz36_4
          try clear hcz38_0
          try clear hcz38_1
          try clear hcz38_2
          try clear hcz38_3
          try clear hcz38_4
          try clear hcz40_0
          try clear hcz40_1
          try clear hcz40_2
          try clear hcz40_3
          try clear hcz40_4
          try clear hcz46_0
          try clear hcz46_1
          try clear hcz46_2
          try clear hcz49_0
          try clear hcz49_1
          try clear hcz49_2
          try clear hcz56_0
          try clear hcz56_1
          try clear hcz56_2
          try clear hcz56_3
          try clear hcz56_4
          try clear hcz60_0
          try clear hcz60_1
          try clear hcz60_2
          try clear hcz66_0
          try clear hcz66_1
          try clear hcz68_0
          try clear hcz68_1
          try clear hcz68_2
          try clear hcz68_3
          try clear hcz68_4
          try clear hfz13_0
          try clear hfz13_1
          try clear hfz13_2
          try clear hfz14_0
          try clear hfz14_1
          try clear hfz21_0
          try clear hfz21_1
          try clear hfz21_2
          try clear hfz23_0
          try clear hfz23_1
          try clear hfz31_0
          try clear hfz31_1
          try clear hfz31_2
          try clear hfz36_0
          try clear hfz36_1
          try clear hfz36_2
          try clear hfz36_3
          try clear hfz36_4
          try clear hfz38_0
          try clear hfz38_1
          try clear hfz38_2
          try clear hfz38_3
          try clear hfz38_4
          try clear hfz40_0
          try clear hfz40_1
          try clear hfz40_2
          try clear hfz40_3
          try clear hfz40_4
          try clear hfz46_0
          try clear hfz46_1
          try clear hfz46_2
          try clear hfz49_0
          try clear hfz49_1
          try clear hfz49_2
          try clear hfz56_0
          try clear hfz56_1
          try clear hfz56_2
          try clear hfz56_3
          try clear hfz56_4
          try clear hfz60_0
          try clear hfz60_1
          try clear hfz60_2
          try clear hfz66_0
          try clear hfz66_1
          try clear hfz68_0
          try clear hfz68_1
          try clear hfz68_2
          try clear hfz68_3
          try clear hfz68_4
          obtain ⟨x14_3, x277000_3, x277001_3, rfl, HA, HK3, BK276, BK281, BK284, BK296, HB⟩ := hrel
          cases gk with
          | zero => exact absurd HA.out (by simp [short_Shortest.l0])
          | succ k3 =>
           have H := HA.out
           clear HA
           simp only [short_Shortest.l0] at H
           replace H := Option.bind_eq_some_iff.mp H
           obtain ⟨⟨t298, t299, t300⟩, A690, H⟩ := H
           replace H : (if t300 = true then (some (t298, t299, 0)) else (short_Shortest.l0 k3 (wrap64 (x14_3 + 1)) t294 t295 x285000_49 x285001_49 t285 t286 ((Int.tmod t282 2) == 0))) = some (r1, r2, r3) := H
           have A69 := Aside0.mk A690
           clear A690
           by_cases c70 : t300 = true
           ·subst c70
            have H1 : (some (t298, t299, 0)) = some (r1, r2, r3) := by rw [if_pos rfl] at H; exact H
            clear H
            have H := H1
            clear H1
            simp only [Option.some.injEq, Prod.mk.injEq] at H
            obtain ⟨rfl, rfl, rfl⟩ := H
            have hnb71 := NB296_276.out
            have hnc71 := NB276_296.out
            have hnb72 := NB296_281.out
            have hnc72 := NB281_296.out
            have hnb73 := NB296_284.out
            have hnc73 := NB284_296.out
            have hcz74_0 : wr.cell? ⟨gb296, 0, none⟩ = some (.string t294) := (blk_cell BK296.out 0).trans rfl
            have hcz74_1 : wr.cell? ⟨gb296, 1, none⟩ = some (.int .i64 t295) := (blk_cell BK296.out 1).trans rfl
            have hfz74_0 := blk_frozen BK296.out 0
            have hfz74_1 := blk_frozen BK296.out 1
            go_wp2_with (first | ((with_reducible refine gate_callee (f := 43) rfl ?_); refine goesL_ (some 101) rfl rfl Tryd.func43 (by kernel_rfl) rfl #[.agg #[.string t294, .int .i64 t295], .int .i64 x14_3, .func (.func 42) #[.agg #[.string x285000_49, .int .i64 x285001_49, .string t285, .int .i64 t286, .bool ((Int.tmod t282 2) == 0)]] #[]] rfl (by (try simp only [List.map_toArray, List.map_cons, List.map_nil]); first | done | rfl | (simp only [List.length_drop, List.length_take]; rfl)) ?_; (with_reducible refine (short_best.calls k3 t294 t295 x14_3 x285000_49 x285001_49 t285 t286 ((Int.tmod t282 2) == 0) t298 t299 true _ A69.out).mono ?_); rintro e w75 ⟨rfl, hb⟩; refine ⟨_, rfl, ?_⟩; have n0_ := Aside0.mk (blk_below (g := gb276) (o := .cells #[.string x277000_3, .int .i64 x277001_3] 28 (0, 0)) (by (with_reducible repeat (first | refine blk_drewN ?_ _ | refine blk_drew ?_ | refine blk_alloc ?_ _)); exact BK276.out) hb); have n1_ := Aside0.mk (blk_below (g := gb281) (o := .cells #[.int .i64 t277, .int .i64 t278, .int .u64 t279] 50 (0, 0)) (by (with_reducible repeat (first | refine blk_drewN ?_ _ | refine blk_drew ?_ | refine blk_alloc ?_ _)); exact BK281.out) hb); have n2_ := Aside0.mk (blk_below (g := gb284) (o := .cells #[.string x285000_49, .int .i64 x285001_49, .string t285, .int .i64 t286, .bool ((Int.tmod t282 2) == 0)] 70 (0, 0)) (by (with_reducible repeat (first | refine blk_drewN ?_ _ | refine blk_drew ?_ | refine blk_alloc ?_ _)); exact BK284.out) hb); have n3_ := Aside0.mk (blk_below (g := gb296) (o := .cells #[.string t294, .int .i64 t295] 28 (0, 0)) (by (with_reducible repeat (first | refine blk_drewN ?_ _ | refine blk_drew ?_ | refine blk_alloc ?_ _)); exact BK296.out) hb); have n4_ := Aside0.mk (below_step (by repeat (first | (with_reducible first | exact HB.out | apply below_alloc | apply pw_below_drewN | apply below_drew1 | refine below_set ?_ GE276.out | refine below_set ?_ GE281.out | refine below_set ?_ GE284.out | refine below_set ?_ GE296.out) | exact HB.out)) hb); clear BK276; clear BK281; clear BK284; clear BK296; clear HB; have BK276 := n0_; have BK281 := n1_; have BK284 := n2_; have BK296 := n3_; have HB := n4_; clear n0_ n1_ n2_ n3_ n4_; (try clear hb); (try clear hb2); (try clear hk); (try clear hi)) | ((with_reducible refine gate_dst (N := 15) rfl ?_); refine box_event ?hg (N := 15) ?hd (cs := #[.string (⟨#[]⟩ : ByteArray), .int .i64 0]) (t := 28) ?hr ?_; (case hd => rfl); (case hg => rfl); (case hr => first | (go_simp; done) | (go_simp; rfl)); intro gb301 hg w76 hbox hb; have n0_ := Aside0.mk (blk_below (g := gb276) (o := .cells #[.string x277000_3, .int .i64 x277001_3] 28 (0, 0)) (by (with_reducible repeat (first | refine blk_drewN ?_ _ | refine blk_drew ?_ | refine blk_alloc ?_ _)); exact BK276.out) hb); have n1_ := Aside0.mk (blk_below (g := gb281) (o := .cells #[.int .i64 t277, .int .i64 t278, .int .u64 t279] 50 (0, 0)) (by (with_reducible repeat (first | refine blk_drewN ?_ _ | refine blk_drew ?_ | refine blk_alloc ?_ _)); exact BK281.out) hb); have n2_ := Aside0.mk (blk_below (g := gb284) (o := .cells #[.string x285000_49, .int .i64 x285001_49, .string t285, .int .i64 t286, .bool ((Int.tmod t282 2) == 0)] 70 (0, 0)) (by (with_reducible repeat (first | refine blk_drewN ?_ _ | refine blk_drew ?_ | refine blk_alloc ?_ _)); exact BK284.out) hb); have n3_ := Aside0.mk (blk_below (g := gb296) (o := .cells #[.string t294, .int .i64 t295] 28 (0, 0)) (by (with_reducible repeat (first | refine blk_drewN ?_ _ | refine blk_drew ?_ | refine blk_alloc ?_ _)); exact BK296.out) hb); have n4_ := Aside0.mk (below_step (by repeat (first | (with_reducible first | exact HB.out | apply below_alloc | apply pw_below_drewN | apply below_drew1 | refine below_set ?_ GE276.out | refine below_set ?_ GE281.out | refine below_set ?_ GE284.out | refine below_set ?_ GE296.out) | exact HB.out)) hb); have n5_ := Aside0.mk (hbox); have n6_ := Aside0.mk ((by rw [hg]; exact (below_size (by repeat (first | (with_reducible first | exact HB.out | apply below_alloc | apply pw_below_drewN | apply below_drew1 | refine below_set ?_ GE276.out | refine below_set ?_ GE281.out | refine below_set ?_ GE284.out | refine below_set ?_ GE296.out) | exact HB.out))) : w.heap.size ≤ gb301)); have n7_ := Aside0.mk ((by rw [hg]; exact (below_size (by repeat (first | (with_reducible first | exact HB.out | apply below_alloc | apply pw_below_drewN | apply below_drew1 | refine below_set ?_ GE276.out | refine below_set ?_ GE281.out | refine below_set ?_ GE284.out | refine below_set ?_ GE296.out) | exact HB.out))) : w.heap.size ≤ gb301)); have n8_ := Aside0.mk ((by rw [hg]; exact Nat.ne_of_lt (blk_lt (g := gb276) (o := .cells #[.string x277000_3, .int .i64 x277001_3] 28 (0, 0)) (by (with_reducible repeat (first | refine blk_drewN ?_ _ | refine blk_drew ?_ | refine blk_alloc ?_ _)); exact BK276.out)) : gb276 ≠ gb301)); have n9_ := Aside0.mk ((by rw [hg]; exact Nat.ne_of_gt (blk_lt (g := gb276) (o := .cells #[.string x277000_3, .int .i64 x277001_3] 28 (0, 0)) (by (with_reducible repeat (first | refine blk_drewN ?_ _ | refine blk_drew ?_ | refine blk_alloc ?_ _)); exact BK276.out)) : gb301 ≠ gb276)); have n10_ := Aside0.mk ((by rw [hg]; exact Nat.ne_of_lt (blk_lt (g := gb281) (o := .cells #[.int .i64 t277, .int .i64 t278, .int .u64 t279] 50 (0, 0)) (by (with_reducible repeat (first | refine blk_drewN ?_ _ | refine blk_drew ?_ | refine blk_alloc ?_ _)); exact BK281.out)) : gb281 ≠ gb301)); have n11_ := Aside0.mk ((by rw [hg]; exact Nat.ne_of_gt (blk_lt (g := gb281) (o := .cells #[.int .i64 t277, .int .i64 t278, .int .u64 t279] 50 (0, 0)) (by (with_reducible repeat (first | refine blk_drewN ?_ _ | refine blk_drew ?_ | refine blk_alloc ?_ _)); exact BK281.out)) : gb301 ≠ gb281)); have n12_ := Aside0.mk ((by rw [hg]; exact Nat.ne_of_lt (blk_lt (g := gb284) (o := .cells #[.string x285000_49, .int .i64 x285001_49, .string t285, .int .i64 t286, .bool ((Int.tmod t282 2) == 0)] 70 (0, 0)) (by (with_reducible repeat (first | refine blk_drewN ?_ _ | refine blk_drew ?_ | refine blk_alloc ?_ _)); exact BK284.out)) : gb284 ≠ gb301)); have n13_ := Aside0.mk ((by rw [hg]; exact Nat.ne_of_gt (blk_lt (g := gb284) (o := .cells #[.string x285000_49, .int .i64 x285001_49, .string t285, .int .i64 t286, .bool ((Int.tmod t282 2) == 0)] 70 (0, 0)) (by (with_reducible repeat (first | refine blk_drewN ?_ _ | refine blk_drew ?_ | refine blk_alloc ?_ _)); exact BK284.out)) : gb301 ≠ gb284)); have n14_ := Aside0.mk ((by rw [hg]; exact Nat.ne_of_lt (blk_lt (g := gb296) (o := .cells #[.string t294, .int .i64 t295] 28 (0, 0)) (by (with_reducible repeat (first | refine blk_drewN ?_ _ | refine blk_drew ?_ | refine blk_alloc ?_ _)); exact BK296.out)) : gb296 ≠ gb301)); have n15_ := Aside0.mk ((by rw [hg]; exact Nat.ne_of_gt (blk_lt (g := gb296) (o := .cells #[.string t294, .int .i64 t295] 28 (0, 0)) (by (with_reducible repeat (first | refine blk_drewN ?_ _ | refine blk_drew ?_ | refine blk_alloc ?_ _)); exact BK296.out)) : gb301 ≠ gb296)); clear BK276; clear BK281; clear BK284; clear BK296; clear HB; have BK276 := n0_; have BK281 := n1_; have BK284 := n2_; have BK296 := n3_; have HB := n4_; have BK301 := n5_; have GW301 := n6_; have GE301 := n7_; have NB276_301 := n8_; have NB301_276 := n9_; have NB281_301 := n10_; have NB301_281 := n11_; have NB284_301 := n12_; have NB301_284 := n13_; have NB296_301 := n14_; have NB301_296 := n15_; clear n0_ n1_ n2_ n3_ n4_ n5_ n6_ n7_ n8_ n9_ n10_ n11_ n12_ n13_ n14_ n15_; clear hb hbox hg; have hnb77 := NB301_276.out; have hnc77 := NB276_301.out; have hnb78 := NB301_281.out; have hnc78 := NB281_301.out; have hnb79 := NB301_284.out; have hnc79 := NB284_301.out; have hnb80 := NB301_296.out; have hnc80 := NB296_301.out; have hcz81_0 : w76.cell? ⟨gb301, 0, none⟩ = some (.string (⟨#[]⟩ : ByteArray)) := (blk_cell BK301.out 0).trans rfl; have hcz81_1 : w76.cell? ⟨gb301, 1, none⟩ = some (.int .i64 0) := (blk_cell BK301.out 1).trans rfl; have hfz81_0 := blk_frozen BK301.out 0; have hfz81_1 := blk_frozen BK301.out 1; have hnb82 := NB276_281.out; have hnc82 := NB281_276.out; have hnb83 := NB276_284.out; have hnc83 := NB284_276.out; have hcz84_0 : w76.cell? ⟨gb276, 0, none⟩ = some (.string x277000_3) := (blk_cell BK276.out 0).trans rfl; have hcz84_1 : w76.cell? ⟨gb276, 1, none⟩ = some (.int .i64 x277001_3) := (blk_cell BK276.out 1).trans rfl; have hfz84_0 := blk_frozen BK276.out 0; have hfz84_1 := blk_frozen BK276.out 1))
            refine bodyPost_ret (results_ct rfl _ _ gb276 28 #[.string t298, .int .i64 t299] (0, 0) _ rfl (by (with_reducible repeat (first | refine blk_drewN ?_ _ | refine blk_drew ?_ | refine blk_alloc ?_ _)); refine blk_put (cs := #[.string t298, .int .i64 x277001_3]) ?_ 1 _ rfl; (with_reducible repeat (first | refine blk_drewN ?_ _ | refine blk_drew ?_ | refine blk_alloc ?_ _)); refine blk_put (cs := #[.string x277000_3, .int .i64 x277001_3]) ?_ 0 _ rfl; (with_reducible repeat (first | refine blk_drewN ?_ _ | refine blk_drew ?_ | refine blk_alloc ?_ _)); refine blk_far ?_ NB276_301.out _; (with_reducible repeat (first | refine blk_drewN ?_ _ | refine blk_drew ?_ | refine blk_alloc ?_ _)); refine blk_far ?_ NB276_301.out _; (with_reducible repeat (first | refine blk_drewN ?_ _ | refine blk_drew ?_ | refine blk_alloc ?_ _)); exact BK276.out) Tryd.underlying28 rfl (by kernel_rfl)) rfl ?_
            exact ⟨by first | rfl | (simp [errW_none, errW_some] <;> rfl) | (simp only [← hji5, ← hji7]; first | rfl | (simp [errW_none, errW_some] <;> rfl)) | (simp [*, errW_none, errW_some] <;> rfl), by repeat (first | (with_reducible first | exact HB.out | apply below_alloc | apply pw_below_drewN | apply below_drew1 | refine below_set ?_ GE276.out | refine below_set ?_ GE281.out | refine below_set ?_ GE284.out | refine below_set ?_ GE296.out | refine below_set ?_ GE301.out) | exact HB.out)⟩
           ·replace c70 := Bool.eq_false_iff.mpr c70
            subst c70
            have H1 : (short_Shortest.l0 k3 (wrap64 (x14_3 + 1)) t294 t295 x285000_49 x285001_49 t285 t286 ((Int.tmod t282 2) == 0)) = some (r1, r2, r3) := by rw [if_neg (show ¬ (false = true) by decide)] at H; exact H
            clear H
            have H := H1
            clear H1
            have H' := Aside0.mk H
            clear H
            have hnb85 := NB296_276.out
            have hnc85 := NB276_296.out
            have hnb86 := NB296_281.out
            have hnc86 := NB281_296.out
            have hnb87 := NB296_284.out
            have hnc87 := NB284_296.out
            have hcz88_0 : wr.cell? ⟨gb296, 0, none⟩ = some (.string t294) := (blk_cell BK296.out 0).trans rfl
            have hcz88_1 : wr.cell? ⟨gb296, 1, none⟩ = some (.int .i64 t295) := (blk_cell BK296.out 1).trans rfl
            have hfz88_0 := blk_frozen BK296.out 0
            have hfz88_1 := blk_frozen BK296.out 1
            go_wp2_with (first | ((with_reducible refine gate_callee (f := 43) rfl ?_); refine goesL_ (some 101) rfl rfl Tryd.func43 (by kernel_rfl) rfl #[.agg #[.string t294, .int .i64 t295], .int .i64 x14_3, .func (.func 42) #[.agg #[.string x285000_49, .int .i64 x285001_49, .string t285, .int .i64 t286, .bool ((Int.tmod t282 2) == 0)]] #[]] rfl (by (try simp only [List.map_toArray, List.map_cons, List.map_nil]); first | done | rfl | (simp only [List.length_drop, List.length_take]; rfl)) ?_; (with_reducible refine (short_best.calls k3 t294 t295 x14_3 x285000_49 x285001_49 t285 t286 ((Int.tmod t282 2) == 0) t298 t299 false _ A69.out).mono ?_); rintro e w89 ⟨rfl, hb⟩; refine ⟨_, rfl, ?_⟩; have n0_ := Aside0.mk (blk_below (g := gb276) (o := .cells #[.string x277000_3, .int .i64 x277001_3] 28 (0, 0)) (by (with_reducible repeat (first | refine blk_drewN ?_ _ | refine blk_drew ?_ | refine blk_alloc ?_ _)); exact BK276.out) hb); have n1_ := Aside0.mk (blk_below (g := gb281) (o := .cells #[.int .i64 t277, .int .i64 t278, .int .u64 t279] 50 (0, 0)) (by (with_reducible repeat (first | refine blk_drewN ?_ _ | refine blk_drew ?_ | refine blk_alloc ?_ _)); exact BK281.out) hb); have n2_ := Aside0.mk (blk_below (g := gb284) (o := .cells #[.string x285000_49, .int .i64 x285001_49, .string t285, .int .i64 t286, .bool ((Int.tmod t282 2) == 0)] 70 (0, 0)) (by (with_reducible repeat (first | refine blk_drewN ?_ _ | refine blk_drew ?_ | refine blk_alloc ?_ _)); exact BK284.out) hb); have n3_ := Aside0.mk (blk_below (g := gb296) (o := .cells #[.string t294, .int .i64 t295] 28 (0, 0)) (by (with_reducible repeat (first | refine blk_drewN ?_ _ | refine blk_drew ?_ | refine blk_alloc ?_ _)); exact BK296.out) hb); have n4_ := Aside0.mk (below_step (by repeat (first | (with_reducible first | exact HB.out | apply below_alloc | apply pw_below_drewN | apply below_drew1 | refine below_set ?_ GE276.out | refine below_set ?_ GE281.out | refine below_set ?_ GE284.out | refine below_set ?_ GE296.out) | exact HB.out)) hb); clear BK276; clear BK281; clear BK284; clear BK296; clear HB; have BK276 := n0_; have BK281 := n1_; have BK284 := n2_; have BK296 := n3_; have HB := n4_; clear n0_ n1_ n2_ n3_ n4_; (try clear hb); (try clear hb2); (try clear hk); (try clear hi)) | ((with_reducible refine gate_dst (N := 15) rfl ?_); refine box_event ?hg (N := 15) ?hd (cs := #[.string (⟨#[]⟩ : ByteArray), .int .i64 0]) (t := 28) ?hr ?_; (case hd => rfl); (case hg => rfl); (case hr => first | (go_simp; done) | (go_simp; rfl)); intro gb301 hg w90 hbox hb; have n0_ := Aside0.mk (blk_below (g := gb276) (o := .cells #[.string x277000_3, .int .i64 x277001_3] 28 (0, 0)) (by (with_reducible repeat (first | refine blk_drewN ?_ _ | refine blk_drew ?_ | refine blk_alloc ?_ _)); exact BK276.out) hb); have n1_ := Aside0.mk (blk_below (g := gb281) (o := .cells #[.int .i64 t277, .int .i64 t278, .int .u64 t279] 50 (0, 0)) (by (with_reducible repeat (first | refine blk_drewN ?_ _ | refine blk_drew ?_ | refine blk_alloc ?_ _)); exact BK281.out) hb); have n2_ := Aside0.mk (blk_below (g := gb284) (o := .cells #[.string x285000_49, .int .i64 x285001_49, .string t285, .int .i64 t286, .bool ((Int.tmod t282 2) == 0)] 70 (0, 0)) (by (with_reducible repeat (first | refine blk_drewN ?_ _ | refine blk_drew ?_ | refine blk_alloc ?_ _)); exact BK284.out) hb); have n3_ := Aside0.mk (blk_below (g := gb296) (o := .cells #[.string t294, .int .i64 t295] 28 (0, 0)) (by (with_reducible repeat (first | refine blk_drewN ?_ _ | refine blk_drew ?_ | refine blk_alloc ?_ _)); exact BK296.out) hb); have n4_ := Aside0.mk (below_step (by repeat (first | (with_reducible first | exact HB.out | apply below_alloc | apply pw_below_drewN | apply below_drew1 | refine below_set ?_ GE276.out | refine below_set ?_ GE281.out | refine below_set ?_ GE284.out | refine below_set ?_ GE296.out) | exact HB.out)) hb); have n5_ := Aside0.mk (hbox); have n6_ := Aside0.mk ((by rw [hg]; exact (below_size (by repeat (first | (with_reducible first | exact HB.out | apply below_alloc | apply pw_below_drewN | apply below_drew1 | refine below_set ?_ GE276.out | refine below_set ?_ GE281.out | refine below_set ?_ GE284.out | refine below_set ?_ GE296.out) | exact HB.out))) : w.heap.size ≤ gb301)); have n7_ := Aside0.mk ((by rw [hg]; exact (below_size (by repeat (first | (with_reducible first | exact HB.out | apply below_alloc | apply pw_below_drewN | apply below_drew1 | refine below_set ?_ GE276.out | refine below_set ?_ GE281.out | refine below_set ?_ GE284.out | refine below_set ?_ GE296.out) | exact HB.out))) : w.heap.size ≤ gb301)); have n8_ := Aside0.mk ((by rw [hg]; exact Nat.ne_of_lt (blk_lt (g := gb276) (o := .cells #[.string x277000_3, .int .i64 x277001_3] 28 (0, 0)) (by (with_reducible repeat (first | refine blk_drewN ?_ _ | refine blk_drew ?_ | refine blk_alloc ?_ _)); exact BK276.out)) : gb276 ≠ gb301)); have n9_ := Aside0.mk ((by rw [hg]; exact Nat.ne_of_gt (blk_lt (g := gb276) (o := .cells #[.string x277000_3, .int .i64 x277001_3] 28 (0, 0)) (by (with_reducible repeat (first | refine blk_drewN ?_ _ | refine blk_drew ?_ | refine blk_alloc ?_ _)); exact BK276.out)) : gb301 ≠ gb276)); have n10_ := Aside0.mk ((by rw [hg]; exact Nat.ne_of_lt (blk_lt (g := gb281) (o := .cells #[.int .i64 t277, .int .i64 t278, .int .u64 t279] 50 (0, 0)) (by (with_reducible repeat (first | refine blk_drewN ?_ _ | refine blk_drew ?_ | refine blk_alloc ?_ _)); exact BK281.out)) : gb281 ≠ gb301)); have n11_ := Aside0.mk ((by rw [hg]; exact Nat.ne_of_gt (blk_lt (g := gb281) (o := .cells #[.int .i64 t277, .int .i64 t278, .int .u64 t279] 50 (0, 0)) (by (with_reducible repeat (first | refine blk_drewN ?_ _ | refine blk_drew ?_ | refine blk_alloc ?_ _)); exact BK281.out)) : gb301 ≠ gb281)); have n12_ := Aside0.mk ((by rw [hg]; exact Nat.ne_of_lt (blk_lt (g := gb284) (o := .cells #[.string x285000_49, .int .i64 x285001_49, .string t285, .int .i64 t286, .bool ((Int.tmod t282 2) == 0)] 70 (0, 0)) (by (with_reducible repeat (first | refine blk_drewN ?_ _ | refine blk_drew ?_ | refine blk_alloc ?_ _)); exact BK284.out)) : gb284 ≠ gb301)); have n13_ := Aside0.mk ((by rw [hg]; exact Nat.ne_of_gt (blk_lt (g := gb284) (o := .cells #[.string x285000_49, .int .i64 x285001_49, .string t285, .int .i64 t286, .bool ((Int.tmod t282 2) == 0)] 70 (0, 0)) (by (with_reducible repeat (first | refine blk_drewN ?_ _ | refine blk_drew ?_ | refine blk_alloc ?_ _)); exact BK284.out)) : gb301 ≠ gb284)); have n14_ := Aside0.mk ((by rw [hg]; exact Nat.ne_of_lt (blk_lt (g := gb296) (o := .cells #[.string t294, .int .i64 t295] 28 (0, 0)) (by (with_reducible repeat (first | refine blk_drewN ?_ _ | refine blk_drew ?_ | refine blk_alloc ?_ _)); exact BK296.out)) : gb296 ≠ gb301)); have n15_ := Aside0.mk ((by rw [hg]; exact Nat.ne_of_gt (blk_lt (g := gb296) (o := .cells #[.string t294, .int .i64 t295] 28 (0, 0)) (by (with_reducible repeat (first | refine blk_drewN ?_ _ | refine blk_drew ?_ | refine blk_alloc ?_ _)); exact BK296.out)) : gb301 ≠ gb296)); clear BK276; clear BK281; clear BK284; clear BK296; clear HB; have BK276 := n0_; have BK281 := n1_; have BK284 := n2_; have BK296 := n3_; have HB := n4_; have BK301 := n5_; have GW301 := n6_; have GE301 := n7_; have NB276_301 := n8_; have NB301_276 := n9_; have NB281_301 := n10_; have NB301_281 := n11_; have NB284_301 := n12_; have NB301_284 := n13_; have NB296_301 := n14_; have NB301_296 := n15_; clear n0_ n1_ n2_ n3_ n4_ n5_ n6_ n7_ n8_ n9_ n10_ n11_ n12_ n13_ n14_ n15_; clear hb hbox hg; have hnb91 := NB301_276.out; have hnc91 := NB276_301.out; have hnb92 := NB301_281.out; have hnc92 := NB281_301.out; have hnb93 := NB301_284.out; have hnc93 := NB284_301.out; have hnb94 := NB301_296.out; have hnc94 := NB296_301.out; have hcz95_0 : w90.cell? ⟨gb301, 0, none⟩ = some (.string (⟨#[]⟩ : ByteArray)) := (blk_cell BK301.out 0).trans rfl; have hcz95_1 : w90.cell? ⟨gb301, 1, none⟩ = some (.int .i64 0) := (blk_cell BK301.out 1).trans rfl; have hfz95_0 := blk_frozen BK301.out 0; have hfz95_1 := blk_frozen BK301.out 1))
            go_roundg k3
            case measure => have := HJ25.out; have := HJ49.out; have := HK3.out; omega
            case rel => exact ⟨(wrap64 (x14_3 + 1)), (x277000_3), (x277001_3), (by first | rfl | (simp; done) | (simp [*]; done)), H', ⟨by have := HJ25.out; have := HJ49.out; have := HK3.out; omega⟩, ⟨by (with_reducible repeat (first | refine blk_drewN ?_ _ | refine blk_drew ?_ | refine blk_alloc ?_ _)); refine blk_far ?_ NB276_301.out _; (with_reducible repeat (first | refine blk_drewN ?_ _ | refine blk_drew ?_ | refine blk_alloc ?_ _)); refine blk_far ?_ NB276_301.out _; (with_reducible repeat (first | refine blk_drewN ?_ _ | refine blk_drew ?_ | refine blk_alloc ?_ _)); exact BK276.out⟩, ⟨by (with_reducible repeat (first | refine blk_drewN ?_ _ | refine blk_drew ?_ | refine blk_alloc ?_ _)); refine blk_far ?_ NB281_301.out _; (with_reducible repeat (first | refine blk_drewN ?_ _ | refine blk_drew ?_ | refine blk_alloc ?_ _)); refine blk_far ?_ NB281_301.out _; (with_reducible repeat (first | refine blk_drewN ?_ _ | refine blk_drew ?_ | refine blk_alloc ?_ _)); exact BK281.out⟩, ⟨by (with_reducible repeat (first | refine blk_drewN ?_ _ | refine blk_drew ?_ | refine blk_alloc ?_ _)); refine blk_far ?_ NB284_301.out _; (with_reducible repeat (first | refine blk_drewN ?_ _ | refine blk_drew ?_ | refine blk_alloc ?_ _)); refine blk_far ?_ NB284_301.out _; (with_reducible repeat (first | refine blk_drewN ?_ _ | refine blk_drew ?_ | refine blk_alloc ?_ _)); exact BK284.out⟩, ⟨by (with_reducible repeat (first | refine blk_drewN ?_ _ | refine blk_drew ?_ | refine blk_alloc ?_ _)); refine blk_far ?_ NB296_301.out _; (with_reducible repeat (first | refine blk_drewN ?_ _ | refine blk_drew ?_ | refine blk_alloc ?_ _)); refine blk_far ?_ NB296_301.out _; (with_reducible repeat (first | refine blk_drewN ?_ _ | refine blk_drew ?_ | refine blk_alloc ?_ _)); exact BK296.out⟩, ⟨by repeat (first | (with_reducible first | exact HB.out | apply below_alloc | apply pw_below_drewN | apply below_drew1 | refine below_set ?_ GE276.out | refine below_set ?_ GE281.out | refine below_set ?_ GE284.out | refine below_set ?_ GE296.out | refine below_set ?_ GE301.out) | exact HB.out)⟩⟩
  ·rw [if_neg c6] at H
   exact absurd H (by simp)
 ·replace c4 := Bool.eq_false_iff.mpr c4
  subst c4
  have H1 : (some ((⟨#[]⟩ : ByteArray), 0, 1)) = some (r1, r2, r3) := by rw [if_neg (show ¬ (false = true) by decide)] at H; exact H
  clear H
  have H := H1
  clear H1
  simp only [Option.some.injEq, Prod.mk.injEq] at H
  obtain ⟨rfl, rfl, rfl⟩ := H
  go_enter Tryd.func18, Tryd.ntmps18
  go_wp2_with (first | ((with_reducible refine gate_dst (N := 4) rfl ?_); refine box_event ?hg (N := 4) ?hd (cs := #[.string (⟨#[]⟩ : ByteArray), .int .i64 0]) (t := 28) ?hr ?_; (case hd => rfl); (case hg => rfl); (case hr => first | (go_simp; done) | (go_simp; rfl)); intro gb276 hg w96 hbox hb; have n0_ := Aside0.mk (below_step (by repeat (first | (with_reducible first | exact HB.out | apply below_alloc | apply pw_below_drewN | apply below_drew1) | exact HB.out)) hb); have n1_ := Aside0.mk (hbox); have n2_ := Aside0.mk ((by rw [hg]; exact (below_size (by repeat (first | (with_reducible first | exact HB.out | apply below_alloc | apply pw_below_drewN | apply below_drew1) | exact HB.out))) : w.heap.size ≤ gb276)); have n3_ := Aside0.mk ((by rw [hg]; exact (below_size (by repeat (first | (with_reducible first | exact HB.out | apply below_alloc | apply pw_below_drewN | apply below_drew1) | exact HB.out))) : w.heap.size ≤ gb276)); clear HB; have HB := n0_; have BK276 := n1_; have GW276 := n2_; have GE276 := n3_; clear n0_ n1_ n2_ n3_; clear hb hbox hg) | ((with_reducible refine gate_callee (f := 27) rfl ?_); refine goesL_ (some 19) rfl rfl Tryd.func27 (by kernel_rfl) rfl #[.int .i64 a1] rfl (by (try simp only [List.map_toArray, List.map_cons, List.map_nil]); first | done | rfl | (simp only [List.length_drop, List.length_take]; rfl)) ?_; (with_reducible refine (short_of.calls a1 t277 t278 t279 false _ A3.out).mono ?_); rintro e w97 ⟨rfl, hb⟩; refine ⟨_, rfl, ?_⟩; have n0_ := Aside0.mk (blk_below (g := gb276) (o := .cells #[.string (⟨#[]⟩ : ByteArray), .int .i64 0] 28 (0, 0)) (by (with_reducible repeat (first | refine blk_drewN ?_ _ | refine blk_drew ?_ | refine blk_alloc ?_ _)); exact BK276.out) hb); have n1_ := Aside0.mk (below_step (by repeat (first | (with_reducible first | exact HB.out | apply below_alloc | apply pw_below_drewN | apply below_drew1 | refine below_set ?_ GE276.out) | exact HB.out)) hb); clear BK276; clear HB; have BK276 := n0_; have HB := n1_; clear n0_ n1_; (try clear hb); (try clear hb2); (try clear hk); (try clear hi)) | ((with_reducible refine gate_dst (N := 6) rfl ?_); refine box_event ?hg (N := 6) ?hd (cs := #[.int .i64 0, .int .i64 0, .int .u64 0]) (t := 50) ?hr ?_; (case hd => rfl); (case hg => rfl); (case hr => first | (go_simp; done) | (go_simp; rfl)); intro gb281 hg w98 hbox hb; have n0_ := Aside0.mk (blk_below (g := gb276) (o := .cells #[.string (⟨#[]⟩ : ByteArray), .int .i64 0] 28 (0, 0)) (by (with_reducible repeat (first | refine blk_drewN ?_ _ | refine blk_drew ?_ | refine blk_alloc ?_ _)); exact BK276.out) hb); have n1_ := Aside0.mk (below_step (by repeat (first | (with_reducible first | exact HB.out | apply below_alloc | apply pw_below_drewN | apply below_drew1 | refine below_set ?_ GE276.out) | exact HB.out)) hb); have n2_ := Aside0.mk (hbox); have n3_ := Aside0.mk ((by rw [hg]; exact (below_size (by repeat (first | (with_reducible first | exact HB.out | apply below_alloc | apply pw_below_drewN | apply below_drew1 | refine below_set ?_ GE276.out) | exact HB.out))) : w.heap.size ≤ gb281)); have n4_ := Aside0.mk ((by rw [hg]; exact (below_size (by repeat (first | (with_reducible first | exact HB.out | apply below_alloc | apply pw_below_drewN | apply below_drew1 | refine below_set ?_ GE276.out) | exact HB.out))) : w.heap.size ≤ gb281)); have n5_ := Aside0.mk ((by rw [hg]; exact Nat.ne_of_lt (blk_lt (g := gb276) (o := .cells #[.string (⟨#[]⟩ : ByteArray), .int .i64 0] 28 (0, 0)) (by (with_reducible repeat (first | refine blk_drewN ?_ _ | refine blk_drew ?_ | refine blk_alloc ?_ _)); exact BK276.out)) : gb276 ≠ gb281)); have n6_ := Aside0.mk ((by rw [hg]; exact Nat.ne_of_gt (blk_lt (g := gb276) (o := .cells #[.string (⟨#[]⟩ : ByteArray), .int .i64 0] 28 (0, 0)) (by (with_reducible repeat (first | refine blk_drewN ?_ _ | refine blk_drew ?_ | refine blk_alloc ?_ _)); exact BK276.out)) : gb281 ≠ gb276)); clear BK276; clear HB; have BK276 := n0_; have HB := n1_; have BK281 := n2_; have GW281 := n3_; have GE281 := n4_; have NB276_281 := n5_; have NB281_276 := n6_; clear n0_ n1_ n2_ n3_ n4_ n5_ n6_; clear hb hbox hg; have hnb99 := NB281_276.out; have hnc99 := NB276_281.out; have hcz100_0 : w98.cell? ⟨gb281, 0, none⟩ = some (.int .i64 0) := (blk_cell BK281.out 0).trans rfl; have hcz100_1 : w98.cell? ⟨gb281, 1, none⟩ = some (.int .i64 0) := (blk_cell BK281.out 1).trans rfl; have hcz100_2 : w98.cell? ⟨gb281, 2, none⟩ = some (.int .u64 0) := (blk_cell BK281.out 2).trans rfl; have hfz100_0 := blk_frozen BK281.out 0; have hfz100_1 := blk_frozen BK281.out 1; have hfz100_2 := blk_frozen BK281.out 2; have hcz101_0 : w98.cell? ⟨gb276, 0, none⟩ = some (.string (⟨#[]⟩ : ByteArray)) := (blk_cell BK276.out 0).trans rfl; have hcz101_1 : w98.cell? ⟨gb276, 1, none⟩ = some (.int .i64 0) := (blk_cell BK276.out 1).trans rfl; have hfz101_0 := blk_frozen BK276.out 0; have hfz101_1 := blk_frozen BK276.out 1))
  refine bodyPost_ret (results_ct rfl _ _ gb276 28 #[.string (⟨#[]⟩ : ByteArray), .int .i64 0] (0, 0) _ rfl (by (with_reducible repeat (first | refine blk_drewN ?_ _ | refine blk_drew ?_ | refine blk_alloc ?_ _)); refine blk_put (cs := #[.string (⟨#[]⟩ : ByteArray), .int .i64 0]) ?_ 1 _ rfl; (with_reducible repeat (first | refine blk_drewN ?_ _ | refine blk_drew ?_ | refine blk_alloc ?_ _)); refine blk_put (cs := #[.string (⟨#[]⟩ : ByteArray), .int .i64 0]) ?_ 0 _ rfl; (with_reducible repeat (first | refine blk_drewN ?_ _ | refine blk_drew ?_ | refine blk_alloc ?_ _)); refine blk_far ?_ NB276_281.out _; (with_reducible repeat (first | refine blk_drewN ?_ _ | refine blk_drew ?_ | refine blk_alloc ?_ _)); refine blk_far ?_ NB276_281.out _; (with_reducible repeat (first | refine blk_drewN ?_ _ | refine blk_drew ?_ | refine blk_alloc ?_ _)); refine blk_far ?_ NB276_281.out _; (with_reducible repeat (first | refine blk_drewN ?_ _ | refine blk_drew ?_ | refine blk_alloc ?_ _)); exact BK276.out) Tryd.underlying28 rfl (by kernel_rfl)) rfl ?_
  exact ⟨by first | rfl | (simp [errW_none, errW_some] <;> rfl) | (simp [*, errW_none, errW_some] <;> rfl), by repeat (first | (with_reducible first | exact HB.out | apply below_alloc | apply pw_below_drewN | apply below_drew1 | refine below_set ?_ GE276.out | refine below_set ?_ GE281.out) | exact HB.out)⟩
end Go.Proofs.YtmeapdchnnpceaaDoor.Fn
end
section
namespace Go.Proofs.YtmeapdchnnpceaaDoor.Pure
open Go.RowKit Go.Proofs.YtmeapdchnnpceaaDoorW.PrintWords Go.Proofs.YtmeapdchnnpceaaDoor.Fn
set_option linter.unusedVariables false
set_option linter.unusedSimpArgs false
theorem one_decOf (u : Int) : (S ([49] : List UInt8), u + 1) = (S (decOf 1 u).1, (decOf 1 u).2) := by
  unfold decOf
  rw [if_neg (by omega)]
  have h1 : digs 1 = [49] := rfl
  rw [h1]
  have h2 : rz [49] = [49] := rfl
  rw [h2]
  simp
  omega
theorem normS_all {l : List UInt8} (h : AllD l) {p : Int} (hl : l.length ≤ 2000) (hp : -5000 ≤ p ∧ p ≤ 5000) : normS (S l) p = (S (decOf (val l) (p - l.length)).1, (decOf (val l) (p - l.length)).2, 0) := by
  unfold normS normTail
  rw [if_neg (by rw [size_S]; omega), L_S, if_pos (all_isD h), if_neg (by omega), if_neg (by omega), formL_eq h]
  rfl
theorem dec_bound {n k : Nat} {e : Int} (h : n < 10 ^ k) (hk : k ≤ 1400) (he : -3000 ≤ e) (h2 : e + k ≤ 3000) : (decOf n e).1.length ≤ 2000 ∧ -5000 ≤ (decOf n e).2 ∧ (decOf n e).2 ≤ 5000 := by
  have := decOf_bound h e
  omega
structure Val (wide : Bool) (p : Nat) (v : List UInt8 × Int) : Prop where
  form : InForm v.1 v.2
  len : v.1.length ≤ 1300
  lo : -1200 ≤ v.2
  hi : v.2 ≤ 1300
def cU (v : List UInt8 × Int) (n : Nat) : Nat := val (v.1.take n)
def cE (v : List UInt8 × Int) (n : Nat) : Int := v.2 - n
def isP (wide : Bool) (p : Nat) (n : Nat) (x : Int) : Prop := rdX wide (dX wide n x) = p
instance (wide : Bool) (p n : Nat) (x : Int) : Decidable (isP wide p n x) := by unfold isP; infer_instance
def nearU (v : List UInt8 × Int) (n : Nat) : Nat := if downP v.1 n then cU v n else cU v n + 1
def bestD (wide : Bool) (p : Nat) (v : List UInt8 × Int) (n : Nat) : Option (List UInt8 × Int) :=
  if v.1.length ≤ n then some v
  else if isP wide p (nearU v n) (cE v n) then some (decOf (nearU v n) (cE v n))
  else if isP wide p (cU v n) (cE v n) then some (decOf (cU v n) (cE v n))
  else if isP wide p (cU v n + 1) (cE v n) then some (decOf (cU v n + 1) (cE v n)) else none
def optD (o : Option (List UInt8 × Int)) : ByteArray × Int × Bool := match o with
  | some d => (S d.1, d.2, true)
  | none => (⟨#[]⟩, 0, false)
structure Span (wide : Bool) (p : Nat) (lo hi : List UInt8 × Int) : Prop where
  f1 : InForm lo.1 lo.2
  f2 : InForm hi.1 hi.2
  b1 : lo.1.length ≤ 2000 ∧ -5000 ≤ lo.2 ∧ lo.2 ≤ 5000
  b2 : hi.1.length ≤ 2000 ∧ -5000 ≤ hi.2 ∧ hi.2 ≤ 5000
  c1 : ∀ (n : Nat) (x : Int), -(vv : Int) ≤ x → cmpD lo.1 lo.2 (decOf n x).1 (decOf n x).2 = cmpN (loX wide p) (dX wide n x)
  c2 : ∀ (n : Nat) (x : Int), -(vv : Int) ≤ x → cmpD hi.1 hi.2 (decOf n x).1 (decOf n x).2 = cmpN (hiX wide p) (dX wide n x)
theorem in_ev {wide : Bool} {p : Nat} {lo hi : List UInt8 × Int} (hs : Span wide p lo hi) (hp : 0 < p) (hi2 : p < ii wide) {n k : Nat} {e : Int} (h : n < 10 ^ k) (hk : k ≤ 1400) (he : -3000 ≤ e) (h2 : e + k ≤ 3000) :
    Ev (fun r => short_span_in.f r (S lo.1) lo.2 (S hi.1) hi.2 (decide (p % 2 = 0)) (S (decOf n e).1) (decOf n e).2) (decide (isP wide p n e)) := by
  have hv := vv_eq
  exact span_ev wide p _ rfl rfl rfl hs.f1 hs.f2 (inForm_decOf n e) hs.b1 hs.b2 (dec_bound h hk he h2) (hs.c1 n e (by omega)) (hs.c2 n e (by omega)) _ (by rw [decide_eq_true_iff]; exact (inX_iff wide hp hi2 _).symm)
theorem cU_lt {wide : Bool} {p : Nat} {v : List UInt8 × Int} (hv : Val wide p v) (n : Nat) (hn : n < v.1.length) : cU v n < 10 ^ n := by
  have := val_lt (hv.form.1.take n)
  rw [List.length_take, Nat.min_eq_left (by omega)] at this
  exact this
theorem nearU_two (v : List UInt8 × Int) (n : Nat) : nearU v n = cU v n ∨ nearU v n = cU v n + 1 := by
  unfold nearU
  split
  · exact .inl rfl
  · exact .inr rfl
theorem round_v {wide : Bool} {p : Nat} {v : List UInt8 × Int} (hv : Val wide p v) (n : Nat) (hn : n < v.1.length) : roundN v.1 v.2 (n : Int) = decOf (nearU v n) (cE v n) := by
  unfold roundN nearU cU cE
  rw [if_neg (by omega), if_neg (by omega), Int.toNat_natCast]
  by_cases c : downP v.1 n
  · rw [if_pos c, if_pos c]
  · rw [if_neg c, if_neg c]
theorem Val.five {wide : Bool} {p : Nat} {v : List UInt8 × Int} (hv : Val wide p v) : v.1.length ≤ 2000 ∧ -5000 ≤ v.2 ∧ v.2 ≤ 5000 := by
  have := hv.len
  have := hv.lo
  have := hv.hi
  omega
theorem best_ev {wide : Bool} {p : Nat} {lo hi v : List UInt8 × Int} (hs : Span wide p lo hi) (hv : Val wide p v) (hp : 0 < p) (hi2 : p < ii wide) (n : Nat) :
    Ev (fun k => short_best.f k (S v.1) v.2 (n : Int) (S lo.1) lo.2 (S hi.1) hi.2 (decide (p % 2 = 0))) (optD (bestD wide p v n)) := by
  have hl := hv.len
  have hlo := hv.lo
  have hhi := hv.hi
  have h5 := hv.five
  unfold short_best.f bestD
  rw [size_S]
  by_cases c1 : v.1.length ≤ n
  · rw [if_pos c1]
    exact Ev.congr (fun k => if_pos (by omega)) (Ev.now _)
  · rw [if_neg c1]
    refine Ev.congr (fun k => if_neg (by omega)) ?_
    have hn : n < v.1.length := by omega
    have hu := cU_lt hv n hn
    have hu1 : cU v n + 1 < 10 ^ (n + 1) := by
      rw [Nat.pow_succ]
      have : 1 ≤ 10 ^ n := Nat.pow_pos (by omega)
      omega
    have hE : -3000 ≤ cE v n ∧ cE v n + ((n + 1 : Nat) : Int) ≤ 3000 := by unfold cE; omega
    have hnr : nearU v n < 10 ^ (n + 1) := by rcases nearU_two v n with h | h <;> rw [h] <;> omega
    have hr := roundS_eq (S v.1) v.2 (n : Int)
    have e1 : roundS (S v.1) v.2 (fun _ => (n : Int)) = (S (decOf (nearU v n) (cE v n)).1, (decOf (nearU v n) (cE v n)).2, 0) := by
      unfold roundS
      rw [normS_ok hv.form h5.1 h5.2, if_pos rfl]
      simp only [L_S]
      rw [round_v hv n hn]
      rfl
    rw [e1] at hr
    refine Ev.bind hr ?_
    refine Ev.bind (in_ev hs hp hi2 hnr (by omega) hE.1 hE.2) ?_
    by_cases c2 : isP wide p (nearU v n) (cE v n)
    · rw [if_pos c2]
      refine Ev.congr (fun k => if_pos (decide_eq_true c2)) (Ev.now _)
    · rw [if_neg c2]
      refine Ev.congr (fun k => if_neg (fun h => c2 (of_decide_eq_true h))) ?_
      refine Ev.congr (fun k => if_pos (by omega)) ?_
      refine Ev.congr (fun k => if_pos (by omega)) ?_
      rw [Int.toNat_natCast, S_take]
      have hnm := norm_eq (S (v.1.take n)) v.2
      have htl : (v.1.take n).length = n := by rw [List.length_take, Nat.min_eq_left (by omega)]
      rw [normS_all (hv.form.1.take n) (by omega) h5.2, htl] at hnm
      rw [show val (v.1.take n) = cU v n from rfl, show v.2 - (n : Int) = cE v n from rfl] at hnm
      refine Ev.bind hnm ?_
      have hw : wrap64 (wrap64 (v.2 - (n : Int)) + 1) = cE v n + 1 := by
        unfold cE
        rw [wrap_id (x := v.2 - (n : Int)) (by omega) (by omega), wrap_id (by omega) (by omega)]
      rw [hw]
      have hone := one_decOf (cE v n)
      have ho1 : (S ([49] : List UInt8)) = S (decOf 1 (cE v n)).1 := congrArg Prod.fst hone
      have ho2 : cE v n + 1 = (decOf 1 (cE v n)).2 := congrArg Prod.snd hone
      have hadd := addS_eq (S (decOf (cU v n) (cE v n)).1) (decOf (cU v n) (cE v n)).2 (S (decOf 1 (cE v n)).1) (decOf 1 (cE v n)).2
      have hE' : cE v n + (n : Int) ≤ 3000 := by omega
      have hE1 : cE v n + ((1 : Nat) : Int) ≤ 3000 := by omega
      rw [addS_ok (inForm_decOf _ _) (inForm_decOf _ _) (dec_bound hu (by omega) hE.1 hE') (dec_bound (n := 1) (k := 1) (by decide) (by decide) hE.1 hE1)] at hadd
      have e2 : addD (decOf (cU v n) (cE v n)).1 (decOf (cU v n) (cE v n)).2 (decOf 1 (cE v n)).1 (decOf 1 (cE v n)).2 = (S (decOf (cU v n + 1) (cE v n)).1, (decOf (cU v n + 1) (cE v n)).2, 0) := by
        unfold addD
        rw [sum_decOf, if_neg (by have := (dec_bound hu1 (by omega) hE.1 hE.2).1; omega)]
        rfl
      rw [e2, ← ho1, ← ho2] at hadd
      refine Ev.bind (g := fun k => bigdec_Add.f k (S (decOf (cU v n) (cE v n)).1) (decOf (cU v n) (cE v n)).2 (⟨#[49]⟩ : ByteArray) (cE v n + 1)) hadd ?_
      refine Ev.step (fun k => by simp only [short_best.l0]; rfl) ?_
      refine Ev.congr (fun k => if_pos (by simp)) ?_
      refine Ev.congr (fun k => if_pos (by simp)) ?_
      refine Ev.bind (in_ev hs hp hi2 hu (by omega) hE.1 hE') ?_
      by_cases c3 : isP wide p (cU v n) (cE v n)
      · rw [if_pos c3]
        exact Ev.congr (fun k => if_pos (decide_eq_true c3)) (Ev.now _)
      · rw [if_neg c3]
        refine Ev.congr (fun k => if_neg (fun h => c3 (of_decide_eq_true h))) ?_
        rw [show wrap64 ((0 : Int) + 1) = 1 by simp [wrap64]]
        refine Ev.step (fun k => by simp only [short_best.l0]; rfl) ?_
        refine Ev.congr (fun k => if_pos (by simp)) ?_
        refine Ev.congr (fun k => if_neg (by simp)) ?_
        refine Ev.congr (fun k => if_pos (by simp)) ?_
        refine Ev.bind (in_ev hs hp hi2 hu1 (by omega) hE.1 hE.2) ?_
        by_cases c4 : isP wide p (cU v n + 1) (cE v n)
        · rw [if_pos c4]
          exact Ev.congr (fun k => if_pos (decide_eq_true c4)) (Ev.now _)
        · rw [if_neg c4]
          refine Ev.congr (fun k => if_neg (fun h => c4 (of_decide_eq_true h))) ?_
          rw [show wrap64 ((1 : Int) + 1) = 2 by simp [wrap64]]
          refine Ev.step (fun k => by simp only [short_best.l0]; rfl) ?_
          exact Ev.congr (fun k => if_neg (by simp)) (Ev.now _)
def shortGo (wide : Bool) (p : Nat) (v : List UInt8 × Int) : Nat → Nat → List UInt8 × Int
  | 0, _ => v
  | d + 1, n => match bestD wide p v n with
    | some r => r
    | none => shortGo wide p v d (n + 1)
theorem best_all (wide : Bool) (p : Nat) (v : List UInt8 × Int) {n : Nat} (h : v.1.length ≤ n) : bestD wide p v n = some v := by
  unfold bestD
  rw [if_pos h]
theorem loop_ev {wide : Bool} {p : Nat} {lo hi v : List UInt8 × Int} (hs : Span wide p lo hi) (hv : Val wide p v) (hp : 0 < p) (hi2 : p < ii wide) : ∀ (d n : Nat), v.1.length ≤ n + d → n ≤ 2000 →
    Ev (fun k => short_Shortest.l0 k (n : Int) (S v.1) v.2 (S lo.1) lo.2 (S hi.1) hi.2 (decide (p % 2 = 0))) (S (shortGo wide p v d n).1, (shortGo wide p v d n).2, 0) := by
  intro d
  induction d with
  | zero =>
    intro n h hn
    have hb := best_ev hs hv hp hi2 n
    rw [best_all wide p v (n := n) h] at hb
    refine Ev.step (fun k => by simp only [short_Shortest.l0]; rfl) ?_
    refine Ev.bind hb ?_
    exact Ev.congr (fun k => if_pos rfl) (Ev.now _)
  | succ d ih =>
    intro n h hn
    have hb := best_ev hs hv hp hi2 n
    refine Ev.step (fun k => by simp only [short_Shortest.l0]; rfl) ?_
    refine Ev.bind hb ?_
    unfold shortGo
    cases hbd : bestD wide p v n with
    | some r => exact Ev.congr (fun k => if_pos rfl) (Ev.now _)
    | none =>
      refine Ev.congr (fun k => if_neg (by decide)) ?_
      have hlen := hv.len
      have hn2 : n < v.1.length := by
        refine Nat.lt_of_not_le fun c => ?_
        rw [best_all wide p v c] at hbd
        cases hbd
      rw [wrap_id (by omega) (by omega), show ((n : Int) + 1) = ((n + 1 : Nat) : Int) by omega]
      exact ih (n + 1) (by omega) (by omega)
def exV (wide : Bool) (p : Nat) : List UInt8 × Int := exD (fM (ff wide) p) ((fE (ff wide) p : Int) - (ll wide : Int))
theorem exV_val (wide : Bool) {p : Nat} (hp : p < ii wide) : Val wide p (exV wide p) := by
  have h1 := fEl wide (Nat.le_of_lt hp)
  have h2 := fE_le wide (Nat.le_of_lt hp)
  have h := exD_small (m := fM (ff wide) p) (by omega) (e := (fE (ff wide) p : Int) - (ll wide : Int)) (by omega)
  exact ⟨exD_form _ _, h.1, h.2.1, h.2.2⟩
def shortD (wide : Bool) (p : Nat) : List UInt8 × Int := shortGo wide p (exV wide p) (exV wide p).1.length 1
def shortS (wide : Bool) (a : Nat) : ByteArray × Int × Int :=
  if ii wide ≤ bareN wide a then (⟨#[]⟩, 0, 1) else if bareN wide a = 0 then (⟨#[]⟩, 0, 0) else (S (shortD wide (bareN wide a)).1, (shortD wide (bareN wide a)).2, 0)
theorem hi_span (wide : Bool) {p : Nat} (hp : 0 < p) (hi : p < ii wide) {lo : List UInt8 × Int} (f1 : InForm lo.1 lo.2) (b1 : lo.1.length ≤ 2000 ∧ -5000 ≤ lo.2 ∧ lo.2 ≤ 5000)
    (c1 : ∀ (n : Nat) (x : Int), -(vv : Int) ≤ x → cmpD lo.1 lo.2 (decOf n x).1 (decOf n x).2 = cmpN (loX wide p) (dX wide n x)) :
    Span wide p lo (exD (2 * fM (ff wide) p + 1) ((fE (ff wide) p : Int) - (ll wide : Int) - 1)) := by
  have h1 := fEl wide (Nat.le_of_lt hi)
  have h2 := fE_le wide (Nat.le_of_lt hi)
  have h := exD_small (m := 2 * fM (ff wide) p + 1) (by omega) (e := (fE (ff wide) p : Int) - (ll wide : Int) - 1) (by omega)
  exact ⟨f1, exD_form _ _, b1, by omega, c1, fun n x hx => cmp_hi wide p n x hx⟩
theorem j1_ev {wide : Bool} {p : Nat} {lo hi : List UInt8 × Int} (hs : Span wide p lo hi) (hp : 0 < p) (hi2 : p < ii wide) :
    Ev (fun k => short_Shortest.j1 k (p : Int) (ff wide : Int) (-(ll wide : Int)) (ii wide : Int) (S lo.1) lo.2 (S hi.1) hi.2 (decide (p % 2 = 0))) (S (shortD wide p).1, (shortD wide p).2, 0) := by
  refine Ev.step (fun k => by simp only [short_Shortest.j1]; rfl) ?_
  have hsh := shapeExact_ev wide (Nat.le_of_lt hi2)
  refine Ev.bind hsh ?_
  exact loop_ev hs (exV_val wide hi2) hp hi2 (exV wide p).1.length 1 (by omega) (by omega)
theorem shortest_eq (wide : Bool) (a : Nat) (ha : a < 18446744073709551616) : Ev (fun k => short_Shortest.f k (a : Int) (szB wide)) (shortS wide a) := by
  obtain ⟨j, hj, ht, hw⟩ := tt_pow wide
  have hi := ii_lt wide
  have hmt := Nat.mod_lt a (tt_le wide).1
  have htt := (tt_le wide).2
  unfold short_Shortest.f
  rw [of_eq']
  simp only [Option.bind_some, if_true]
  rw [hw]
  refine Ev.congr (fun k => if_pos (by omega)) ?_
  rw [mask_one _ hj, and_mask _ _ (by omega) ha, ← ht]
  unfold shortS bareN
  obtain ⟨p, hp⟩ : ∃ p, a % tt wide = p := ⟨_, rfl⟩
  rw [hp] at hmt ⊢
  by_cases c1 : ii wide ≤ p
  · rw [if_pos c1]
    exact Ev.congr (fun k => if_pos (by omega)) (Ev.now _)
  · rw [if_neg c1]
    refine Ev.congr (fun k => if_neg (by omega)) ?_
    rw [value_eq wide p (by omega)]
    simp only [Option.bind_some]
    by_cases c2 : p = 0
    · rw [if_pos c2]
      have h0 : fM (ff wide) p = 0 := by rw [c2]; cases wide <;> decide
      exact Ev.congr (fun k => if_pos (by omega)) (Ev.now _)
    · rw [if_neg c2]
      have hp0 : 0 < p := by omega
      have hlt : p < ii wide := by omega
      have hm := fM_pos (f := ff wide) hp0
      refine Ev.congr (fun k => if_neg (by omega)) ?_
      have h1 := fEl wide (Nat.le_of_lt hlt)
      have h2 := fE_le wide (Nat.le_of_lt hlt)
      obtain ⟨e, he⟩ : ∃ e : Int, (fE (ff wide) p : Int) - (ll wide : Int) = e := ⟨_, rfl⟩
      have hlo2 := cmp_lo2 wide hp0
      have hlo1 := cmp_lo1 wide hp0
      have hsp := fun lo => @hi_span wide p hp0 hlt lo
      have hll := ll_two wide
      rw [he] at h1 hlo1 hlo2 hsp ⊢
      obtain ⟨m, hmm⟩ : ∃ m, fM (ff wide) p = m := ⟨_, rfl⟩
      rw [hmm] at hm h2 hlo1 hlo2 hsp ⊢
      have e1 : IntKind.u64.wrap (IntKind.u64.wrap (2 * (m : Int)) + 1) = ((2 * m + 1 : Nat) : Int) := by
        rw [show (2 : Int) * (m : Int) = ((2 * m : Nat) : Int) by omega, u64N _ (by omega), show (((2 * m : Nat) : Int) + 1) = ((2 * m + 1 : Nat) : Int) by omega, u64N _ (by omega)]
      have e2 : IntKind.u64.wrap (IntKind.u64.wrap (2 * (m : Int)) - 1) = ((2 * m - 1 : Nat) : Int) := by
        rw [show (2 : Int) * (m : Int) = ((2 * m : Nat) : Int) by omega, u64N _ (by omega), show (((2 * m : Nat) : Int) - 1) = ((2 * m - 1 : Nat) : Int) by omega, u64N _ (by omega)]
      have e4 : IntKind.u64.wrap (IntKind.u64.wrap (4 * (m : Int)) - 1) = ((4 * m - 1 : Nat) : Int) := by
        rw [show (4 : Int) * (m : Int) = ((4 * m : Nat) : Int) by omega, u64N _ (by omega), show (((4 * m : Nat) : Int) - 1) = ((4 * m - 1 : Nat) : Int) by omega, u64N _ (by omega)]
      have w1 : wrap64 (e - 1) = e - 1 := wrap_id (by omega) (by omega)
      have w2 : wrap64 (e - 2) = e - 2 := wrap_id (by omega) (by omega)
      have x1 := exact_eq (2 * m + 1) (e - 1) (by omega)
      rw [exactS_exD _ (by omega)] at x1
      have x2 := exact_eq (2 * m - 1) (e - 1) (by omega)
      rw [exactS_exD _ (by omega)] at x2
      have x4 := exact_eq (4 * m - 1) (e - 2) (by omega)
      rw [exactS_exD _ (by omega)] at x4
      have s2 := exD_small (m := 2 * m - 1) (by omega) (e := e - 1) (by omega)
      have s4 := exD_small (m := 4 * m - 1) (by omega) (e := e - 2) (by omega)
      rw [e1, w1, e2]
      refine Ev.bind x1 ?_
      refine Ev.bind x2 ?_
      refine Ev.congr (fun k => if_pos (by omega)) ?_
      have hpar : (Int.tmod (m : Int) 2 == 0) = decide (p % 2 = 0) := by
        rw [show (2 : Int) = ((2 : Nat) : Int) from rfl, tmodN]
        have hq : p % 2 = m % 2 := by
          obtain ⟨g1, _⟩ := fOf (ff wide) p
          rw [hmm] at g1
          obtain ⟨u, hu⟩ : ∃ u, ff wide = u + 1 := ⟨ff wide - 1, (Nat.sub_add_cancel (Nat.le_trans (by decide) (ff_two wide).1)).symm⟩
          rw [hu, Nat.pow_succ, ← Nat.mul_assoc] at g1
          generalize fE (u + 1) p * 2 ^ u = G at g1
          rw [g1]
          omega
        rw [hq, Bool.eq_iff_iff]
        simp
        omega
      rw [hpar, shl_one _ (Nat.le_trans (ff_lt wide) (by decide))]
      -- the two ways behind
      have way1 : m ≠ 2 ^ ff wide ∨ fE (ff wide) p = 0 → Ev (fun k => short_Shortest.j1 k (p : Int) (ff wide : Int) (-(ll wide : Int)) (ii wide : Int) (S (exD (2 * m - 1) (e - 1)).1) (exD (2 * m - 1) (e - 1)).2 (S (exD (2 * m + 1) (e - 1)).1) (exD (2 * m + 1) (e - 1)).2 (decide (p % 2 = 0))) (S (shortD wide p).1, (shortD wide p).2, 0) := fun h =>
        j1_ev (hsp _ (exD_form _ _) (by omega) (fun n x hx => hlo1 h n x hx)) hp0 hlt
      by_cases c3 : m = 2 ^ ff wide
      · refine Ev.congr (fun k => if_pos (by rw [c3])) ?_
        by_cases c4 : fE (ff wide) p = 0
        · rw [show decide (e > -(ll wide : Int)) = false from decide_eq_false (by omega)]
          refine Ev.step (fun k => by simp only [short_Shortest.j0]; rfl) ?_
          exact Ev.congr (fun k => if_neg (by decide)) (way1 (.inr c4))
        · rw [show decide (e > -(ll wide : Int)) = true from decide_eq_true (by omega)]
          refine Ev.step (fun k => by simp only [short_Shortest.j0]; rfl) ?_
          refine Ev.congr (fun k => if_pos (by simp)) ?_
          rw [e4, w2]
          refine Ev.bind x4 ?_
          exact j1_ev (hsp _ (exD_form _ _) (by omega) (fun n x hx => hlo2 c3 c4 n x hx)) hp0 hlt
      · refine Ev.congr (fun k => if_neg (fun h => c3 (Int.ofNat.inj h))) ?_
        refine Ev.step (fun k => by simp only [short_Shortest.j0]; rfl) ?_
        exact Ev.congr (fun k => if_neg (by decide)) (way1 (.inl c3))
end Go.Proofs.YtmeapdchnnpceaaDoor.Pure
end
section
namespace Go.Proofs.YtmeapdchnnpceaaDoor.Pure
open Go.RowKit Go.Proofs.YtmeapdchnnpceaaDoorW.PrintWords Go.Proofs.YtmeapdchnnpceaaDoor.Fn
set_option linter.unusedVariables false
set_option linter.unusedSimpArgs false
theorem rdS_five (wide : Bool) {l : List UInt8} {q : Int} (hf : InForm l q) (h5 : l.length ≤ 2000 ∧ -5000 ≤ q ∧ q ≤ 5000) : rdS wide (S l) q = ((rdX wide (dX wide (val l) (q - l.length)) : Int), 0) := by
  unfold rdS
  rw [normS_ok hf h5.1 h5.2, if_pos rfl]
  simp only [L_S]
theorem shortGo_step (wide : Bool) (p : Nat) (v : List UInt8 × Int) (d n : Nat) : shortGo wide p v (d + 1) n = (bestD wide p v n).getD (shortGo wide p v d (n + 1)) := by
  conv => lhs; unfold shortGo
  cases bestD wide p v n <;> rfl
end Go.Proofs.YtmeapdchnnpceaaDoor.Pure
end
section
namespace Go.Proofs.YtmeapdchnnpceaaDoor.Fn
open Go.RowKit Go.Proofs.YtmeapdchnnpceaaDoorW.PrintWords Go.Proofs.YtmeapdchnnpceaaDoorW.PrintLast Go.Proofs.YtmeapdchnnpceaaDoorW.PrintMore
attribute [local go_sem] min2_int min_two
set_option linter.unusedVariables false
set_option linter.unusedSimpArgs false
attribute [local go_sem high] eqA28
def platenlaw05_lives.f (k : Nat)  : Option (Bool) := (short_Read.f k (⟨#[49]⟩ : ByteArray) 0 64).bind fun bt302 => ((short_Shortest.f k 4591870180066957722 64).bind fun bt304 => ((short_Parts.f 4609434218613702656 64).bind fun bt308 => (if bt302.2 = 0 then (if bt304.2.2 = 0 then (if bt302.1 = 4591870180066957722 then (if (bt304.1.toList == ([49] : List UInt8) && (bt304.2.1 == 0)) = true then (if bt308.2.1 = 6755399441055744 then (if bt308.2.2.1 = (-52) then (some (bt308.2.2.2 == 0)) else (some false)) else (some false)) else (some false)) else (some false)) else (some false)) else (some false))))
set_option maxHeartbeats 8000000 in
set_option maxRecDepth 100000 in
theorem platenlaw05_lives.calls (k : Nat)  (r : Bool) (w : World) (h : platenlaw05_lives.f k  = some r) :
  Calls Tryd.prog 15 #[] w fun e w' => e = .returned (.bool r) ∧ Below w.heap.size w w' := by
 have hu28 := Tryd.underlying28
 have HB := Aside0.mk (Below.refl w.heap.size w)
 have H : ((short_Read.f k (⟨#[49]⟩ : ByteArray) 0 64).bind fun bt302 => ((short_Shortest.f k 4591870180066957722 64).bind fun bt304 => ((short_Parts.f 4609434218613702656 64).bind fun bt308 => (if bt302.2 = 0 then (if bt304.2.2 = 0 then (if bt302.1 = 4591870180066957722 then (if (bt304.1.toList == ([49] : List UInt8) && (bt304.2.1 == 0)) = true then (if bt308.2.1 = 6755399441055744 then (if bt308.2.2.1 = (-52) then (some (bt308.2.2.2 == 0)) else (some false)) else (some false)) else (some false)) else (some false)) else (some false)) else (some false))))) = some r := h
 clear h
 replace H := Option.bind_eq_some_iff.mp H
 obtain ⟨⟨t302, t303⟩, A10, H⟩ := H
 replace H : ((short_Shortest.f k 4591870180066957722 64).bind fun bt304 => ((short_Parts.f 4609434218613702656 64).bind fun bt308 => (if t303 = 0 then (if bt304.2.2 = 0 then (if t302 = 4591870180066957722 then (if (bt304.1.toList == ([49] : List UInt8) && (bt304.2.1 == 0)) = true then (if bt308.2.1 = 6755399441055744 then (if bt308.2.2.1 = (-52) then (some (bt308.2.2.2 == 0)) else (some false)) else (some false)) else (some false)) else (some false)) else (some false)) else (some false)))) = some r := H
 have A1 := Aside0.mk A10
 clear A10
 replace H := Option.bind_eq_some_iff.mp H
 obtain ⟨⟨t304, t305, t306⟩, A20, H⟩ := H
 replace H : ((short_Parts.f 4609434218613702656 64).bind fun bt308 => (if t303 = 0 then (if t306 = 0 then (if t302 = 4591870180066957722 then (if (t304.toList == ([49] : List UInt8) && (t305 == 0)) = true then (if bt308.2.1 = 6755399441055744 then (if bt308.2.2.1 = (-52) then (some (bt308.2.2.2 == 0)) else (some false)) else (some false)) else (some false)) else (some false)) else (some false)) else (some false))) = some r := H
 have A2 := Aside0.mk A20
 clear A20
 replace H := Option.bind_eq_some_iff.mp H
 obtain ⟨⟨t308, t309, t310, t311⟩, A30, H⟩ := H
 replace H : (if t303 = 0 then (if t306 = 0 then (if t302 = 4591870180066957722 then (if (t304.toList == ([49] : List UInt8) && (t305 == 0)) = true then (if t309 = 6755399441055744 then (if t310 = (-52) then (some (t311 == 0)) else (some false)) else (some false)) else (some false)) else (some false)) else (some false)) else (some false)) = some r := H
 have A3 := Aside0.mk A30
 clear A30
 by_cases c4 : t303 = 0
 ·rw [if_pos c4] at H
  have c4b0 : (t303 == 0) = true := beq_iff_eq.mpr c4
  have c4b1 : (t303 != 0) = false := bne_eq_false_iff_eq.mpr c4
  clear c4
  by_cases c5 : t306 = 0
  ·rw [if_pos c5] at H
   have c5b0 : (t306 == 0) = true := beq_iff_eq.mpr c5
   have c5b1 : (t306 != 0) = false := bne_eq_false_iff_eq.mpr c5
   clear c5
   by_cases c6 : t302 = 4591870180066957722
   ·rw [if_pos c6] at H
    have c6b0 : (t302 == 4591870180066957722) = true := beq_iff_eq.mpr c6
    have c6b1 : (t302 != 4591870180066957722) = false := bne_eq_false_iff_eq.mpr c6
    clear c6
    by_cases c7 : (t304.toList == ([49] : List UInt8) && (t305 == 0)) = true
    ·rw [if_pos c7] at H
     have c7b0 : (t304.toList == ([49] : List UInt8) && (t305 == 0)) = true := c7
     (try (have c7b1 : decide (t304.toList = ([49] : List UInt8) && (t305 == 0)) = true := by simpa using c7))
     (try (have c7b2 : (t304.toList == ([49] : List UInt8) && (t305 == 0)) = true := by simpa using c7))
     clear c7
     by_cases c8 : t309 = 6755399441055744
     ·rw [if_pos c8] at H
      have c8b0 : (t309 == 6755399441055744) = true := beq_iff_eq.mpr c8
      have c8b1 : (t309 != 6755399441055744) = false := bne_eq_false_iff_eq.mpr c8
      clear c8
      by_cases c9 : t310 = (-52)
      ·rw [if_pos c9] at H
       have c9b0 : (t310 == (-52)) = true := beq_iff_eq.mpr c9
       have c9b1 : (t310 != (-52)) = false := bne_eq_false_iff_eq.mpr c9
       clear c9
       obtain rfl := Option.some.inj H
       go_enter Tryd.func15, Tryd.ntmps15
       go_wp2_with (first | ((with_reducible refine gate_callee (f := 16) rfl ?_); refine goesL_ (some 11) rfl rfl Tryd.func16 (by kernel_rfl) rfl #[.agg #[.string (⟨#[49]⟩ : ByteArray), .int .i64 0], .int .i64 64] rfl (by (try simp only [List.map_toArray, List.map_cons, List.map_nil]); first | done | rfl | (simp only [List.length_drop, List.length_take]; rfl)) ?_; (with_reducible refine (short_Read.calls k (⟨#[49]⟩ : ByteArray) 0 64 t302 t303 _ A1.out).mono ?_); rintro e w10 ⟨rfl, hb⟩; refine ⟨_, rfl, ?_⟩; have n0_ := Aside0.mk (below_step (by repeat (first | (with_reducible first | exact HB.out | apply below_alloc | apply pw_below_drewN | apply below_drew1) | exact HB.out)) hb); clear HB; have HB := n0_; clear n0_; (try clear hb); (try clear hb2); (try clear hk); (try clear hi)) | ((with_reducible refine gate_callee (f := 18) rfl ?_); refine goesL_ (some 15) rfl rfl Tryd.func18 (by kernel_rfl) rfl #[.int .u64 4591870180066957722, .int .i64 64] rfl (by (try simp only [List.map_toArray, List.map_cons, List.map_nil]); first | done | rfl | (simp only [List.length_drop, List.length_take]; rfl)) ?_; (with_reducible refine (short_Shortest.calls k 4591870180066957722 64 t304 t305 t306 _ A2.out).mono ?_); rintro e w11 ⟨rfl, hb⟩; refine ⟨_, rfl, ?_⟩; have n0_ := Aside0.mk (below_step (by repeat (first | (with_reducible first | exact HB.out | apply below_alloc | apply pw_below_drewN | apply below_drew1) | exact HB.out)) hb); clear HB; have HB := n0_; clear n0_; (try clear hb); (try clear hb2); (try clear hk); (try clear hi)) | ((with_reducible refine gate_dst (N := 3) rfl ?_); refine box_event ?hg (N := 3) ?hd (cs := #[.string (⟨#[]⟩ : ByteArray), .int .i64 0]) (t := 28) ?hr ?_; (case hd => rfl); (case hg => rfl); (case hr => first | (go_simp; done) | (go_simp; rfl)); intro gb307 hg w12 hbox hb; have n0_ := Aside0.mk (below_step (by repeat (first | (with_reducible first | exact HB.out | apply below_alloc | apply pw_below_drewN | apply below_drew1) | exact HB.out)) hb); have n1_ := Aside0.mk (hbox); have n2_ := Aside0.mk ((by rw [hg]; exact (below_size (by repeat (first | (with_reducible first | exact HB.out | apply below_alloc | apply pw_below_drewN | apply below_drew1) | exact HB.out))) : w.heap.size ≤ gb307)); have n3_ := Aside0.mk ((by rw [hg]; exact (below_size (by repeat (first | (with_reducible first | exact HB.out | apply below_alloc | apply pw_below_drewN | apply below_drew1) | exact HB.out))) : w.heap.size ≤ gb307)); clear HB; have HB := n0_; have BK307 := n1_; have GW307 := n2_; have GE307 := n3_; clear n0_ n1_ n2_ n3_; clear hb hbox hg; have hcz13_0 : w12.cell? ⟨gb307, 0, none⟩ = some (.string (⟨#[]⟩ : ByteArray)) := (blk_cell BK307.out 0).trans rfl; have hcz13_1 : w12.cell? ⟨gb307, 1, none⟩ = some (.int .i64 0) := (blk_cell BK307.out 1).trans rfl; have hfz13_0 := blk_frozen BK307.out 0; have hfz13_1 := blk_frozen BK307.out 1) | ((with_reducible refine gate_callee (f := 13) rfl ?_); refine goesL_ (some 19) rfl rfl Tryd.func13 (by kernel_rfl) rfl #[.int .u64 4609434218613702656, .int .i64 64] rfl (by (try simp only [List.map_toArray, List.map_cons, List.map_nil]); first | done | rfl | (simp only [List.length_drop, List.length_take]; rfl)) ?_; (with_reducible refine (short_Parts.calls 4609434218613702656 64 t308 t309 t310 t311 _ A3.out).mono ?_); rintro e w14 ⟨rfl, hb⟩; refine ⟨_, rfl, ?_⟩; have n0_ := Aside0.mk (blk_below (g := gb307) (o := .cells #[.string t304, .int .i64 t305] 28 (0, 0)) (by (with_reducible repeat (first | refine blk_drewN ?_ _ | refine blk_drew ?_ | refine blk_alloc ?_ _)); refine blk_put (cs := #[.string t304, .int .i64 0]) ?_ 1 _ rfl; (with_reducible repeat (first | refine blk_drewN ?_ _ | refine blk_drew ?_ | refine blk_alloc ?_ _)); refine blk_put (cs := #[.string (⟨#[]⟩ : ByteArray), .int .i64 0]) ?_ 0 _ rfl; (with_reducible repeat (first | refine blk_drewN ?_ _ | refine blk_drew ?_ | refine blk_alloc ?_ _)); exact BK307.out) hb); have n1_ := Aside0.mk (below_step (by repeat (first | (with_reducible first | exact HB.out | apply below_alloc | apply pw_below_drewN | apply below_drew1 | refine below_set ?_ GE307.out) | exact HB.out)) hb); clear BK307; clear HB; have BK307 := n0_; have HB := n1_; clear n0_ n1_; (try clear hb); (try clear hb2); (try clear hk); (try clear hi); have hcz15_0 : w14.cell? ⟨gb307, 0, none⟩ = some (.string t304) := (blk_cell BK307.out 0).trans rfl; have hcz15_1 : w14.cell? ⟨gb307, 1, none⟩ = some (.int .i64 t305) := (blk_cell BK307.out 1).trans rfl; have hfz15_0 := blk_frozen BK307.out 0; have hfz15_1 := blk_frozen BK307.out 1))
       go_ret
       exact ⟨by first | rfl | (simp [errW_none, errW_some] <;> rfl) | (simp [*, errW_none, errW_some] <;> rfl), by repeat (first | (with_reducible first | exact HB.out | apply below_alloc | apply pw_below_drewN | apply below_drew1 | refine below_set ?_ GE307.out) | exact HB.out)⟩
      ·rw [if_neg c9] at H
       have c9b0 : (t310 == (-52)) = false := beq_eq_false_iff_ne.mpr c9
       have c9b1 : (t310 != (-52)) = true := bne_iff_ne.mpr c9
       obtain rfl := Option.some.inj H
       go_enter Tryd.func15, Tryd.ntmps15
       go_wp2_with (first | ((with_reducible refine gate_callee (f := 16) rfl ?_); refine goesL_ (some 11) rfl rfl Tryd.func16 (by kernel_rfl) rfl #[.agg #[.string (⟨#[49]⟩ : ByteArray), .int .i64 0], .int .i64 64] rfl (by (try simp only [List.map_toArray, List.map_cons, List.map_nil]); first | done | rfl | (simp only [List.length_drop, List.length_take]; rfl)) ?_; (with_reducible refine (short_Read.calls k (⟨#[49]⟩ : ByteArray) 0 64 t302 t303 _ A1.out).mono ?_); rintro e w16 ⟨rfl, hb⟩; refine ⟨_, rfl, ?_⟩; have n0_ := Aside0.mk (below_step (by repeat (first | (with_reducible first | exact HB.out | apply below_alloc | apply pw_below_drewN | apply below_drew1) | exact HB.out)) hb); clear HB; have HB := n0_; clear n0_; (try clear hb); (try clear hb2); (try clear hk); (try clear hi)) | ((with_reducible refine gate_callee (f := 18) rfl ?_); refine goesL_ (some 15) rfl rfl Tryd.func18 (by kernel_rfl) rfl #[.int .u64 4591870180066957722, .int .i64 64] rfl (by (try simp only [List.map_toArray, List.map_cons, List.map_nil]); first | done | rfl | (simp only [List.length_drop, List.length_take]; rfl)) ?_; (with_reducible refine (short_Shortest.calls k 4591870180066957722 64 t304 t305 t306 _ A2.out).mono ?_); rintro e w17 ⟨rfl, hb⟩; refine ⟨_, rfl, ?_⟩; have n0_ := Aside0.mk (below_step (by repeat (first | (with_reducible first | exact HB.out | apply below_alloc | apply pw_below_drewN | apply below_drew1) | exact HB.out)) hb); clear HB; have HB := n0_; clear n0_; (try clear hb); (try clear hb2); (try clear hk); (try clear hi)) | ((with_reducible refine gate_dst (N := 3) rfl ?_); refine box_event ?hg (N := 3) ?hd (cs := #[.string (⟨#[]⟩ : ByteArray), .int .i64 0]) (t := 28) ?hr ?_; (case hd => rfl); (case hg => rfl); (case hr => first | (go_simp; done) | (go_simp; rfl)); intro gb307 hg w18 hbox hb; have n0_ := Aside0.mk (below_step (by repeat (first | (with_reducible first | exact HB.out | apply below_alloc | apply pw_below_drewN | apply below_drew1) | exact HB.out)) hb); have n1_ := Aside0.mk (hbox); have n2_ := Aside0.mk ((by rw [hg]; exact (below_size (by repeat (first | (with_reducible first | exact HB.out | apply below_alloc | apply pw_below_drewN | apply below_drew1) | exact HB.out))) : w.heap.size ≤ gb307)); have n3_ := Aside0.mk ((by rw [hg]; exact (below_size (by repeat (first | (with_reducible first | exact HB.out | apply below_alloc | apply pw_below_drewN | apply below_drew1) | exact HB.out))) : w.heap.size ≤ gb307)); clear HB; have HB := n0_; have BK307 := n1_; have GW307 := n2_; have GE307 := n3_; clear n0_ n1_ n2_ n3_; clear hb hbox hg; have hcz19_0 : w18.cell? ⟨gb307, 0, none⟩ = some (.string (⟨#[]⟩ : ByteArray)) := (blk_cell BK307.out 0).trans rfl; have hcz19_1 : w18.cell? ⟨gb307, 1, none⟩ = some (.int .i64 0) := (blk_cell BK307.out 1).trans rfl; have hfz19_0 := blk_frozen BK307.out 0; have hfz19_1 := blk_frozen BK307.out 1) | ((with_reducible refine gate_callee (f := 13) rfl ?_); refine goesL_ (some 19) rfl rfl Tryd.func13 (by kernel_rfl) rfl #[.int .u64 4609434218613702656, .int .i64 64] rfl (by (try simp only [List.map_toArray, List.map_cons, List.map_nil]); first | done | rfl | (simp only [List.length_drop, List.length_take]; rfl)) ?_; (with_reducible refine (short_Parts.calls 4609434218613702656 64 t308 t309 t310 t311 _ A3.out).mono ?_); rintro e w20 ⟨rfl, hb⟩; refine ⟨_, rfl, ?_⟩; have n0_ := Aside0.mk (blk_below (g := gb307) (o := .cells #[.string t304, .int .i64 t305] 28 (0, 0)) (by (with_reducible repeat (first | refine blk_drewN ?_ _ | refine blk_drew ?_ | refine blk_alloc ?_ _)); refine blk_put (cs := #[.string t304, .int .i64 0]) ?_ 1 _ rfl; (with_reducible repeat (first | refine blk_drewN ?_ _ | refine blk_drew ?_ | refine blk_alloc ?_ _)); refine blk_put (cs := #[.string (⟨#[]⟩ : ByteArray), .int .i64 0]) ?_ 0 _ rfl; (with_reducible repeat (first | refine blk_drewN ?_ _ | refine blk_drew ?_ | refine blk_alloc ?_ _)); exact BK307.out) hb); have n1_ := Aside0.mk (below_step (by repeat (first | (with_reducible first | exact HB.out | apply below_alloc | apply pw_below_drewN | apply below_drew1 | refine below_set ?_ GE307.out) | exact HB.out)) hb); clear BK307; clear HB; have BK307 := n0_; have HB := n1_; clear n0_ n1_; (try clear hb); (try clear hb2); (try clear hk); (try clear hi); have hcz21_0 : w20.cell? ⟨gb307, 0, none⟩ = some (.string t304) := (blk_cell BK307.out 0).trans rfl; have hcz21_1 : w20.cell? ⟨gb307, 1, none⟩ = some (.int .i64 t305) := (blk_cell BK307.out 1).trans rfl; have hfz21_0 := blk_frozen BK307.out 0; have hfz21_1 := blk_frozen BK307.out 1))
       go_ret
       exact ⟨by first | rfl | (simp [errW_none, errW_some] <;> rfl) | (simp [*, errW_none, errW_some] <;> rfl), by repeat (first | (with_reducible first | exact HB.out | apply below_alloc | apply pw_below_drewN | apply below_drew1 | refine below_set ?_ GE307.out) | exact HB.out)⟩
     ·rw [if_neg c8] at H
      have c8b0 : (t309 == 6755399441055744) = false := beq_eq_false_iff_ne.mpr c8
      have c8b1 : (t309 != 6755399441055744) = true := bne_iff_ne.mpr c8
      obtain rfl := Option.some.inj H
      go_enter Tryd.func15, Tryd.ntmps15
      go_wp2_with (first | ((with_reducible refine gate_callee (f := 16) rfl ?_); refine goesL_ (some 11) rfl rfl Tryd.func16 (by kernel_rfl) rfl #[.agg #[.string (⟨#[49]⟩ : ByteArray), .int .i64 0], .int .i64 64] rfl (by (try simp only [List.map_toArray, List.map_cons, List.map_nil]); first | done | rfl | (simp only [List.length_drop, List.length_take]; rfl)) ?_; (with_reducible refine (short_Read.calls k (⟨#[49]⟩ : ByteArray) 0 64 t302 t303 _ A1.out).mono ?_); rintro e w22 ⟨rfl, hb⟩; refine ⟨_, rfl, ?_⟩; have n0_ := Aside0.mk (below_step (by repeat (first | (with_reducible first | exact HB.out | apply below_alloc | apply pw_below_drewN | apply below_drew1) | exact HB.out)) hb); clear HB; have HB := n0_; clear n0_; (try clear hb); (try clear hb2); (try clear hk); (try clear hi)) | ((with_reducible refine gate_callee (f := 18) rfl ?_); refine goesL_ (some 15) rfl rfl Tryd.func18 (by kernel_rfl) rfl #[.int .u64 4591870180066957722, .int .i64 64] rfl (by (try simp only [List.map_toArray, List.map_cons, List.map_nil]); first | done | rfl | (simp only [List.length_drop, List.length_take]; rfl)) ?_; (with_reducible refine (short_Shortest.calls k 4591870180066957722 64 t304 t305 t306 _ A2.out).mono ?_); rintro e w23 ⟨rfl, hb⟩; refine ⟨_, rfl, ?_⟩; have n0_ := Aside0.mk (below_step (by repeat (first | (with_reducible first | exact HB.out | apply below_alloc | apply pw_below_drewN | apply below_drew1) | exact HB.out)) hb); clear HB; have HB := n0_; clear n0_; (try clear hb); (try clear hb2); (try clear hk); (try clear hi)) | ((with_reducible refine gate_dst (N := 3) rfl ?_); refine box_event ?hg (N := 3) ?hd (cs := #[.string (⟨#[]⟩ : ByteArray), .int .i64 0]) (t := 28) ?hr ?_; (case hd => rfl); (case hg => rfl); (case hr => first | (go_simp; done) | (go_simp; rfl)); intro gb307 hg w24 hbox hb; have n0_ := Aside0.mk (below_step (by repeat (first | (with_reducible first | exact HB.out | apply below_alloc | apply pw_below_drewN | apply below_drew1) | exact HB.out)) hb); have n1_ := Aside0.mk (hbox); have n2_ := Aside0.mk ((by rw [hg]; exact (below_size (by repeat (first | (with_reducible first | exact HB.out | apply below_alloc | apply pw_below_drewN | apply below_drew1) | exact HB.out))) : w.heap.size ≤ gb307)); have n3_ := Aside0.mk ((by rw [hg]; exact (below_size (by repeat (first | (with_reducible first | exact HB.out | apply below_alloc | apply pw_below_drewN | apply below_drew1) | exact HB.out))) : w.heap.size ≤ gb307)); clear HB; have HB := n0_; have BK307 := n1_; have GW307 := n2_; have GE307 := n3_; clear n0_ n1_ n2_ n3_; clear hb hbox hg; have hcz25_0 : w24.cell? ⟨gb307, 0, none⟩ = some (.string (⟨#[]⟩ : ByteArray)) := (blk_cell BK307.out 0).trans rfl; have hcz25_1 : w24.cell? ⟨gb307, 1, none⟩ = some (.int .i64 0) := (blk_cell BK307.out 1).trans rfl; have hfz25_0 := blk_frozen BK307.out 0; have hfz25_1 := blk_frozen BK307.out 1) | ((with_reducible refine gate_callee (f := 13) rfl ?_); refine goesL_ (some 19) rfl rfl Tryd.func13 (by kernel_rfl) rfl #[.int .u64 4609434218613702656, .int .i64 64] rfl (by (try simp only [List.map_toArray, List.map_cons, List.map_nil]); first | done | rfl | (simp only [List.length_drop, List.length_take]; rfl)) ?_; (with_reducible refine (short_Parts.calls 4609434218613702656 64 t308 t309 t310 t311 _ A3.out).mono ?_); rintro e w26 ⟨rfl, hb⟩; refine ⟨_, rfl, ?_⟩; have n0_ := Aside0.mk (blk_below (g := gb307) (o := .cells #[.string t304, .int .i64 t305] 28 (0, 0)) (by (with_reducible repeat (first | refine blk_drewN ?_ _ | refine blk_drew ?_ | refine blk_alloc ?_ _)); refine blk_put (cs := #[.string t304, .int .i64 0]) ?_ 1 _ rfl; (with_reducible repeat (first | refine blk_drewN ?_ _ | refine blk_drew ?_ | refine blk_alloc ?_ _)); refine blk_put (cs := #[.string (⟨#[]⟩ : ByteArray), .int .i64 0]) ?_ 0 _ rfl; (with_reducible repeat (first | refine blk_drewN ?_ _ | refine blk_drew ?_ | refine blk_alloc ?_ _)); exact BK307.out) hb); have n1_ := Aside0.mk (below_step (by repeat (first | (with_reducible first | exact HB.out | apply below_alloc | apply pw_below_drewN | apply below_drew1 | refine below_set ?_ GE307.out) | exact HB.out)) hb); clear BK307; clear HB; have BK307 := n0_; have HB := n1_; clear n0_ n1_; (try clear hb); (try clear hb2); (try clear hk); (try clear hi); have hcz27_0 : w26.cell? ⟨gb307, 0, none⟩ = some (.string t304) := (blk_cell BK307.out 0).trans rfl; have hcz27_1 : w26.cell? ⟨gb307, 1, none⟩ = some (.int .i64 t305) := (blk_cell BK307.out 1).trans rfl; have hfz27_0 := blk_frozen BK307.out 0; have hfz27_1 := blk_frozen BK307.out 1))
      go_ret
      exact ⟨by first | rfl | (simp [errW_none, errW_some] <;> rfl) | (simp [*, errW_none, errW_some] <;> rfl), by repeat (first | (with_reducible first | exact HB.out | apply below_alloc | apply pw_below_drewN | apply below_drew1 | refine below_set ?_ GE307.out) | exact HB.out)⟩
    ·rw [if_neg c7] at H
     have c7b0 : (t304.toList == ([49] : List UInt8) && (t305 == 0)) = false := by simpa using c7
     (try (have c7b1 : decide (t304.toList = ([49] : List UInt8) && (t305 == 0)) = false := by simpa using c7))
     (try (have c7b2 : (t304.toList == ([49] : List UInt8) && (t305 == 0)) = false := by simpa using c7))
     (try (have c7b3 : ¬ (t304.toList = ([49] : List UInt8) && (t305 == 0)) := by simpa using c7))
     clear c7
     obtain rfl := Option.some.inj H
     go_enter Tryd.func15, Tryd.ntmps15
     go_wp2_with (first | ((with_reducible refine gate_callee (f := 16) rfl ?_); refine goesL_ (some 11) rfl rfl Tryd.func16 (by kernel_rfl) rfl #[.agg #[.string (⟨#[49]⟩ : ByteArray), .int .i64 0], .int .i64 64] rfl (by (try simp only [List.map_toArray, List.map_cons, List.map_nil]); first | done | rfl | (simp only [List.length_drop, List.length_take]; rfl)) ?_; (with_reducible refine (short_Read.calls k (⟨#[49]⟩ : ByteArray) 0 64 t302 t303 _ A1.out).mono ?_); rintro e w28 ⟨rfl, hb⟩; refine ⟨_, rfl, ?_⟩; have n0_ := Aside0.mk (below_step (by repeat (first | (with_reducible first | exact HB.out | apply below_alloc | apply pw_below_drewN | apply below_drew1) | exact HB.out)) hb); clear HB; have HB := n0_; clear n0_; (try clear hb); (try clear hb2); (try clear hk); (try clear hi)) | ((with_reducible refine gate_callee (f := 18) rfl ?_); refine goesL_ (some 15) rfl rfl Tryd.func18 (by kernel_rfl) rfl #[.int .u64 4591870180066957722, .int .i64 64] rfl (by (try simp only [List.map_toArray, List.map_cons, List.map_nil]); first | done | rfl | (simp only [List.length_drop, List.length_take]; rfl)) ?_; (with_reducible refine (short_Shortest.calls k 4591870180066957722 64 t304 t305 t306 _ A2.out).mono ?_); rintro e w29 ⟨rfl, hb⟩; refine ⟨_, rfl, ?_⟩; have n0_ := Aside0.mk (below_step (by repeat (first | (with_reducible first | exact HB.out | apply below_alloc | apply pw_below_drewN | apply below_drew1) | exact HB.out)) hb); clear HB; have HB := n0_; clear n0_; (try clear hb); (try clear hb2); (try clear hk); (try clear hi)) | ((with_reducible refine gate_dst (N := 3) rfl ?_); refine box_event ?hg (N := 3) ?hd (cs := #[.string (⟨#[]⟩ : ByteArray), .int .i64 0]) (t := 28) ?hr ?_; (case hd => rfl); (case hg => rfl); (case hr => first | (go_simp; done) | (go_simp; rfl)); intro gb307 hg w30 hbox hb; have n0_ := Aside0.mk (below_step (by repeat (first | (with_reducible first | exact HB.out | apply below_alloc | apply pw_below_drewN | apply below_drew1) | exact HB.out)) hb); have n1_ := Aside0.mk (hbox); have n2_ := Aside0.mk ((by rw [hg]; exact (below_size (by repeat (first | (with_reducible first | exact HB.out | apply below_alloc | apply pw_below_drewN | apply below_drew1) | exact HB.out))) : w.heap.size ≤ gb307)); have n3_ := Aside0.mk ((by rw [hg]; exact (below_size (by repeat (first | (with_reducible first | exact HB.out | apply below_alloc | apply pw_below_drewN | apply below_drew1) | exact HB.out))) : w.heap.size ≤ gb307)); clear HB; have HB := n0_; have BK307 := n1_; have GW307 := n2_; have GE307 := n3_; clear n0_ n1_ n2_ n3_; clear hb hbox hg; have hcz31_0 : w30.cell? ⟨gb307, 0, none⟩ = some (.string (⟨#[]⟩ : ByteArray)) := (blk_cell BK307.out 0).trans rfl; have hcz31_1 : w30.cell? ⟨gb307, 1, none⟩ = some (.int .i64 0) := (blk_cell BK307.out 1).trans rfl; have hfz31_0 := blk_frozen BK307.out 0; have hfz31_1 := blk_frozen BK307.out 1) | ((with_reducible refine gate_callee (f := 13) rfl ?_); refine goesL_ (some 19) rfl rfl Tryd.func13 (by kernel_rfl) rfl #[.int .u64 4609434218613702656, .int .i64 64] rfl (by (try simp only [List.map_toArray, List.map_cons, List.map_nil]); first | done | rfl | (simp only [List.length_drop, List.length_take]; rfl)) ?_; (with_reducible refine (short_Parts.calls 4609434218613702656 64 t308 t309 t310 t311 _ A3.out).mono ?_); rintro e w32 ⟨rfl, hb⟩; refine ⟨_, rfl, ?_⟩; have n0_ := Aside0.mk (blk_below (g := gb307) (o := .cells #[.string t304, .int .i64 t305] 28 (0, 0)) (by (with_reducible repeat (first | refine blk_drewN ?_ _ | refine blk_drew ?_ | refine blk_alloc ?_ _)); refine blk_put (cs := #[.string t304, .int .i64 0]) ?_ 1 _ rfl; (with_reducible repeat (first | refine blk_drewN ?_ _ | refine blk_drew ?_ | refine blk_alloc ?_ _)); refine blk_put (cs := #[.string (⟨#[]⟩ : ByteArray), .int .i64 0]) ?_ 0 _ rfl; (with_reducible repeat (first | refine blk_drewN ?_ _ | refine blk_drew ?_ | refine blk_alloc ?_ _)); exact BK307.out) hb); have n1_ := Aside0.mk (below_step (by repeat (first | (with_reducible first | exact HB.out | apply below_alloc | apply pw_below_drewN | apply below_drew1 | refine below_set ?_ GE307.out) | exact HB.out)) hb); clear BK307; clear HB; have BK307 := n0_; have HB := n1_; clear n0_ n1_; (try clear hb); (try clear hb2); (try clear hk); (try clear hi); have hcz33_0 : w32.cell? ⟨gb307, 0, none⟩ = some (.string t304) := (blk_cell BK307.out 0).trans rfl; have hcz33_1 : w32.cell? ⟨gb307, 1, none⟩ = some (.int .i64 t305) := (blk_cell BK307.out 1).trans rfl; have hfz33_0 := blk_frozen BK307.out 0; have hfz33_1 := blk_frozen BK307.out 1))
     go_ret
     exact ⟨by first | rfl | (simp [errW_none, errW_some] <;> rfl) | (simp [*, errW_none, errW_some] <;> rfl), by repeat (first | (with_reducible first | exact HB.out | apply below_alloc | apply pw_below_drewN | apply below_drew1 | refine below_set ?_ GE307.out) | exact HB.out)⟩
   ·rw [if_neg c6] at H
    have c6b0 : (t302 == 4591870180066957722) = false := beq_eq_false_iff_ne.mpr c6
    have c6b1 : (t302 != 4591870180066957722) = true := bne_iff_ne.mpr c6
    obtain rfl := Option.some.inj H
    go_enter Tryd.func15, Tryd.ntmps15
    go_wp2_with (first | ((with_reducible refine gate_callee (f := 16) rfl ?_); refine goesL_ (some 11) rfl rfl Tryd.func16 (by kernel_rfl) rfl #[.agg #[.string (⟨#[49]⟩ : ByteArray), .int .i64 0], .int .i64 64] rfl (by (try simp only [List.map_toArray, List.map_cons, List.map_nil]); first | done | rfl | (simp only [List.length_drop, List.length_take]; rfl)) ?_; (with_reducible refine (short_Read.calls k (⟨#[49]⟩ : ByteArray) 0 64 t302 t303 _ A1.out).mono ?_); rintro e w34 ⟨rfl, hb⟩; refine ⟨_, rfl, ?_⟩; have n0_ := Aside0.mk (below_step (by repeat (first | (with_reducible first | exact HB.out | apply below_alloc | apply pw_below_drewN | apply below_drew1) | exact HB.out)) hb); clear HB; have HB := n0_; clear n0_; (try clear hb); (try clear hb2); (try clear hk); (try clear hi)) | ((with_reducible refine gate_callee (f := 18) rfl ?_); refine goesL_ (some 15) rfl rfl Tryd.func18 (by kernel_rfl) rfl #[.int .u64 4591870180066957722, .int .i64 64] rfl (by (try simp only [List.map_toArray, List.map_cons, List.map_nil]); first | done | rfl | (simp only [List.length_drop, List.length_take]; rfl)) ?_; (with_reducible refine (short_Shortest.calls k 4591870180066957722 64 t304 t305 t306 _ A2.out).mono ?_); rintro e w35 ⟨rfl, hb⟩; refine ⟨_, rfl, ?_⟩; have n0_ := Aside0.mk (below_step (by repeat (first | (with_reducible first | exact HB.out | apply below_alloc | apply pw_below_drewN | apply below_drew1) | exact HB.out)) hb); clear HB; have HB := n0_; clear n0_; (try clear hb); (try clear hb2); (try clear hk); (try clear hi)) | ((with_reducible refine gate_dst (N := 3) rfl ?_); refine box_event ?hg (N := 3) ?hd (cs := #[.string (⟨#[]⟩ : ByteArray), .int .i64 0]) (t := 28) ?hr ?_; (case hd => rfl); (case hg => rfl); (case hr => first | (go_simp; done) | (go_simp; rfl)); intro gb307 hg w36 hbox hb; have n0_ := Aside0.mk (below_step (by repeat (first | (with_reducible first | exact HB.out | apply below_alloc | apply pw_below_drewN | apply below_drew1) | exact HB.out)) hb); have n1_ := Aside0.mk (hbox); have n2_ := Aside0.mk ((by rw [hg]; exact (below_size (by repeat (first | (with_reducible first | exact HB.out | apply below_alloc | apply pw_below_drewN | apply below_drew1) | exact HB.out))) : w.heap.size ≤ gb307)); have n3_ := Aside0.mk ((by rw [hg]; exact (below_size (by repeat (first | (with_reducible first | exact HB.out | apply below_alloc | apply pw_below_drewN | apply below_drew1) | exact HB.out))) : w.heap.size ≤ gb307)); clear HB; have HB := n0_; have BK307 := n1_; have GW307 := n2_; have GE307 := n3_; clear n0_ n1_ n2_ n3_; clear hb hbox hg; have hcz37_0 : w36.cell? ⟨gb307, 0, none⟩ = some (.string (⟨#[]⟩ : ByteArray)) := (blk_cell BK307.out 0).trans rfl; have hcz37_1 : w36.cell? ⟨gb307, 1, none⟩ = some (.int .i64 0) := (blk_cell BK307.out 1).trans rfl; have hfz37_0 := blk_frozen BK307.out 0; have hfz37_1 := blk_frozen BK307.out 1) | ((with_reducible refine gate_callee (f := 13) rfl ?_); refine goesL_ (some 19) rfl rfl Tryd.func13 (by kernel_rfl) rfl #[.int .u64 4609434218613702656, .int .i64 64] rfl (by (try simp only [List.map_toArray, List.map_cons, List.map_nil]); first | done | rfl | (simp only [List.length_drop, List.length_take]; rfl)) ?_; (with_reducible refine (short_Parts.calls 4609434218613702656 64 t308 t309 t310 t311 _ A3.out).mono ?_); rintro e w38 ⟨rfl, hb⟩; refine ⟨_, rfl, ?_⟩; have n0_ := Aside0.mk (blk_below (g := gb307) (o := .cells #[.string t304, .int .i64 t305] 28 (0, 0)) (by (with_reducible repeat (first | refine blk_drewN ?_ _ | refine blk_drew ?_ | refine blk_alloc ?_ _)); refine blk_put (cs := #[.string t304, .int .i64 0]) ?_ 1 _ rfl; (with_reducible repeat (first | refine blk_drewN ?_ _ | refine blk_drew ?_ | refine blk_alloc ?_ _)); refine blk_put (cs := #[.string (⟨#[]⟩ : ByteArray), .int .i64 0]) ?_ 0 _ rfl; (with_reducible repeat (first | refine blk_drewN ?_ _ | refine blk_drew ?_ | refine blk_alloc ?_ _)); exact BK307.out) hb); have n1_ := Aside0.mk (below_step (by repeat (first | (with_reducible first | exact HB.out | apply below_alloc | apply pw_below_drewN | apply below_drew1 | refine below_set ?_ GE307.out) | exact HB.out)) hb); clear BK307; clear HB; have BK307 := n0_; have HB := n1_; clear n0_ n1_; (try clear hb); (try clear hb2); (try clear hk); (try clear hi)))
    go_ret
    exact ⟨by first | rfl | (simp [errW_none, errW_some] <;> rfl) | (simp [*, errW_none, errW_some] <;> rfl), by repeat (first | (with_reducible first | exact HB.out | apply below_alloc | apply pw_below_drewN | apply below_drew1 | refine below_set ?_ GE307.out) | exact HB.out)⟩
  ·rw [if_neg c5] at H
   have c5b0 : (t306 == 0) = false := beq_eq_false_iff_ne.mpr c5
   have c5b1 : (t306 != 0) = true := bne_iff_ne.mpr c5
   obtain rfl := Option.some.inj H
   go_enter Tryd.func15, Tryd.ntmps15
   go_wp2_with (first | ((with_reducible refine gate_callee (f := 16) rfl ?_); refine goesL_ (some 11) rfl rfl Tryd.func16 (by kernel_rfl) rfl #[.agg #[.string (⟨#[49]⟩ : ByteArray), .int .i64 0], .int .i64 64] rfl (by (try simp only [List.map_toArray, List.map_cons, List.map_nil]); first | done | rfl | (simp only [List.length_drop, List.length_take]; rfl)) ?_; (with_reducible refine (short_Read.calls k (⟨#[49]⟩ : ByteArray) 0 64 t302 t303 _ A1.out).mono ?_); rintro e w39 ⟨rfl, hb⟩; refine ⟨_, rfl, ?_⟩; have n0_ := Aside0.mk (below_step (by repeat (first | (with_reducible first | exact HB.out | apply below_alloc | apply pw_below_drewN | apply below_drew1) | exact HB.out)) hb); clear HB; have HB := n0_; clear n0_; (try clear hb); (try clear hb2); (try clear hk); (try clear hi)) | ((with_reducible refine gate_callee (f := 18) rfl ?_); refine goesL_ (some 15) rfl rfl Tryd.func18 (by kernel_rfl) rfl #[.int .u64 4591870180066957722, .int .i64 64] rfl (by (try simp only [List.map_toArray, List.map_cons, List.map_nil]); first | done | rfl | (simp only [List.length_drop, List.length_take]; rfl)) ?_; (with_reducible refine (short_Shortest.calls k 4591870180066957722 64 t304 t305 t306 _ A2.out).mono ?_); rintro e w40 ⟨rfl, hb⟩; refine ⟨_, rfl, ?_⟩; have n0_ := Aside0.mk (below_step (by repeat (first | (with_reducible first | exact HB.out | apply below_alloc | apply pw_below_drewN | apply below_drew1) | exact HB.out)) hb); clear HB; have HB := n0_; clear n0_; (try clear hb); (try clear hb2); (try clear hk); (try clear hi)) | ((with_reducible refine gate_dst (N := 3) rfl ?_); refine box_event ?hg (N := 3) ?hd (cs := #[.string (⟨#[]⟩ : ByteArray), .int .i64 0]) (t := 28) ?hr ?_; (case hd => rfl); (case hg => rfl); (case hr => first | (go_simp; done) | (go_simp; rfl)); intro gb307 hg w41 hbox hb; have n0_ := Aside0.mk (below_step (by repeat (first | (with_reducible first | exact HB.out | apply below_alloc | apply pw_below_drewN | apply below_drew1) | exact HB.out)) hb); have n1_ := Aside0.mk (hbox); have n2_ := Aside0.mk ((by rw [hg]; exact (below_size (by repeat (first | (with_reducible first | exact HB.out | apply below_alloc | apply pw_below_drewN | apply below_drew1) | exact HB.out))) : w.heap.size ≤ gb307)); have n3_ := Aside0.mk ((by rw [hg]; exact (below_size (by repeat (first | (with_reducible first | exact HB.out | apply below_alloc | apply pw_below_drewN | apply below_drew1) | exact HB.out))) : w.heap.size ≤ gb307)); clear HB; have HB := n0_; have BK307 := n1_; have GW307 := n2_; have GE307 := n3_; clear n0_ n1_ n2_ n3_; clear hb hbox hg; have hcz42_0 : w41.cell? ⟨gb307, 0, none⟩ = some (.string (⟨#[]⟩ : ByteArray)) := (blk_cell BK307.out 0).trans rfl; have hcz42_1 : w41.cell? ⟨gb307, 1, none⟩ = some (.int .i64 0) := (blk_cell BK307.out 1).trans rfl; have hfz42_0 := blk_frozen BK307.out 0; have hfz42_1 := blk_frozen BK307.out 1) | ((with_reducible refine gate_callee (f := 13) rfl ?_); refine goesL_ (some 19) rfl rfl Tryd.func13 (by kernel_rfl) rfl #[.int .u64 4609434218613702656, .int .i64 64] rfl (by (try simp only [List.map_toArray, List.map_cons, List.map_nil]); first | done | rfl | (simp only [List.length_drop, List.length_take]; rfl)) ?_; (with_reducible refine (short_Parts.calls 4609434218613702656 64 t308 t309 t310 t311 _ A3.out).mono ?_); rintro e w43 ⟨rfl, hb⟩; refine ⟨_, rfl, ?_⟩; have n0_ := Aside0.mk (blk_below (g := gb307) (o := .cells #[.string t304, .int .i64 t305] 28 (0, 0)) (by (with_reducible repeat (first | refine blk_drewN ?_ _ | refine blk_drew ?_ | refine blk_alloc ?_ _)); refine blk_put (cs := #[.string t304, .int .i64 0]) ?_ 1 _ rfl; (with_reducible repeat (first | refine blk_drewN ?_ _ | refine blk_drew ?_ | refine blk_alloc ?_ _)); refine blk_put (cs := #[.string (⟨#[]⟩ : ByteArray), .int .i64 0]) ?_ 0 _ rfl; (with_reducible repeat (first | refine blk_drewN ?_ _ | refine blk_drew ?_ | refine blk_alloc ?_ _)); exact BK307.out) hb); have n1_ := Aside0.mk (below_step (by repeat (first | (with_reducible first | exact HB.out | apply below_alloc | apply pw_below_drewN | apply below_drew1 | refine below_set ?_ GE307.out) | exact HB.out)) hb); clear BK307; clear HB; have BK307 := n0_; have HB := n1_; clear n0_ n1_; (try clear hb); (try clear hb2); (try clear hk); (try clear hi)))
   go_ret
   exact ⟨by first | rfl | (simp [errW_none, errW_some] <;> rfl) | (simp [*, errW_none, errW_some] <;> rfl), by repeat (first | (with_reducible first | exact HB.out | apply below_alloc | apply pw_below_drewN | apply below_drew1 | refine below_set ?_ GE307.out) | exact HB.out)⟩
 ·rw [if_neg c4] at H
  have c4b0 : (t303 == 0) = false := beq_eq_false_iff_ne.mpr c4
  have c4b1 : (t303 != 0) = true := bne_iff_ne.mpr c4
  obtain rfl := Option.some.inj H
  go_enter Tryd.func15, Tryd.ntmps15
  go_wp2_with (first | ((with_reducible refine gate_callee (f := 16) rfl ?_); refine goesL_ (some 11) rfl rfl Tryd.func16 (by kernel_rfl) rfl #[.agg #[.string (⟨#[49]⟩ : ByteArray), .int .i64 0], .int .i64 64] rfl (by (try simp only [List.map_toArray, List.map_cons, List.map_nil]); first | done | rfl | (simp only [List.length_drop, List.length_take]; rfl)) ?_; (with_reducible refine (short_Read.calls k (⟨#[49]⟩ : ByteArray) 0 64 t302 t303 _ A1.out).mono ?_); rintro e w44 ⟨rfl, hb⟩; refine ⟨_, rfl, ?_⟩; have n0_ := Aside0.mk (below_step (by repeat (first | (with_reducible first | exact HB.out | apply below_alloc | apply pw_below_drewN | apply below_drew1) | exact HB.out)) hb); clear HB; have HB := n0_; clear n0_; (try clear hb); (try clear hb2); (try clear hk); (try clear hi)) | ((with_reducible refine gate_callee (f := 18) rfl ?_); refine goesL_ (some 15) rfl rfl Tryd.func18 (by kernel_rfl) rfl #[.int .u64 4591870180066957722, .int .i64 64] rfl (by (try simp only [List.map_toArray, List.map_cons, List.map_nil]); first | done | rfl | (simp only [List.length_drop, List.length_take]; rfl)) ?_; (with_reducible refine (short_Shortest.calls k 4591870180066957722 64 t304 t305 t306 _ A2.out).mono ?_); rintro e w45 ⟨rfl, hb⟩; refine ⟨_, rfl, ?_⟩; have n0_ := Aside0.mk (below_step (by repeat (first | (with_reducible first | exact HB.out | apply below_alloc | apply pw_below_drewN | apply below_drew1) | exact HB.out)) hb); clear HB; have HB := n0_; clear n0_; (try clear hb); (try clear hb2); (try clear hk); (try clear hi)) | ((with_reducible refine gate_dst (N := 3) rfl ?_); refine box_event ?hg (N := 3) ?hd (cs := #[.string (⟨#[]⟩ : ByteArray), .int .i64 0]) (t := 28) ?hr ?_; (case hd => rfl); (case hg => rfl); (case hr => first | (go_simp; done) | (go_simp; rfl)); intro gb307 hg w46 hbox hb; have n0_ := Aside0.mk (below_step (by repeat (first | (with_reducible first | exact HB.out | apply below_alloc | apply pw_below_drewN | apply below_drew1) | exact HB.out)) hb); have n1_ := Aside0.mk (hbox); have n2_ := Aside0.mk ((by rw [hg]; exact (below_size (by repeat (first | (with_reducible first | exact HB.out | apply below_alloc | apply pw_below_drewN | apply below_drew1) | exact HB.out))) : w.heap.size ≤ gb307)); have n3_ := Aside0.mk ((by rw [hg]; exact (below_size (by repeat (first | (with_reducible first | exact HB.out | apply below_alloc | apply pw_below_drewN | apply below_drew1) | exact HB.out))) : w.heap.size ≤ gb307)); clear HB; have HB := n0_; have BK307 := n1_; have GW307 := n2_; have GE307 := n3_; clear n0_ n1_ n2_ n3_; clear hb hbox hg; have hcz47_0 : w46.cell? ⟨gb307, 0, none⟩ = some (.string (⟨#[]⟩ : ByteArray)) := (blk_cell BK307.out 0).trans rfl; have hcz47_1 : w46.cell? ⟨gb307, 1, none⟩ = some (.int .i64 0) := (blk_cell BK307.out 1).trans rfl; have hfz47_0 := blk_frozen BK307.out 0; have hfz47_1 := blk_frozen BK307.out 1) | ((with_reducible refine gate_callee (f := 13) rfl ?_); refine goesL_ (some 19) rfl rfl Tryd.func13 (by kernel_rfl) rfl #[.int .u64 4609434218613702656, .int .i64 64] rfl (by (try simp only [List.map_toArray, List.map_cons, List.map_nil]); first | done | rfl | (simp only [List.length_drop, List.length_take]; rfl)) ?_; (with_reducible refine (short_Parts.calls 4609434218613702656 64 t308 t309 t310 t311 _ A3.out).mono ?_); rintro e w48 ⟨rfl, hb⟩; refine ⟨_, rfl, ?_⟩; have n0_ := Aside0.mk (blk_below (g := gb307) (o := .cells #[.string t304, .int .i64 t305] 28 (0, 0)) (by (with_reducible repeat (first | refine blk_drewN ?_ _ | refine blk_drew ?_ | refine blk_alloc ?_ _)); refine blk_put (cs := #[.string t304, .int .i64 0]) ?_ 1 _ rfl; (with_reducible repeat (first | refine blk_drewN ?_ _ | refine blk_drew ?_ | refine blk_alloc ?_ _)); refine blk_put (cs := #[.string (⟨#[]⟩ : ByteArray), .int .i64 0]) ?_ 0 _ rfl; (with_reducible repeat (first | refine blk_drewN ?_ _ | refine blk_drew ?_ | refine blk_alloc ?_ _)); exact BK307.out) hb); have n1_ := Aside0.mk (below_step (by repeat (first | (with_reducible first | exact HB.out | apply below_alloc | apply pw_below_drewN | apply below_drew1 | refine below_set ?_ GE307.out) | exact HB.out)) hb); clear BK307; clear HB; have BK307 := n0_; have HB := n1_; clear n0_ n1_; (try clear hb); (try clear hb2); (try clear hk); (try clear hi)))
  go_ret
  exact ⟨by first | rfl | (simp [errW_none, errW_some] <;> rfl) | (simp [*, errW_none, errW_some] <;> rfl), by repeat (first | (with_reducible first | exact HB.out | apply below_alloc | apply pw_below_drewN | apply below_drew1 | refine below_set ?_ GE307.out) | exact HB.out)⟩
end Go.Proofs.YtmeapdchnnpceaaDoor.Fn
end
section
namespace Go.Proofs.YtmeapdchnnpceaaDoor.Pure
open Go.RowKit Go.Proofs.YtmeapdchnnpceaaDoorW.PrintWords Go.Proofs.YtmeapdchnnpceaaDoor.Fn
set_option linter.unusedVariables false
set_option linter.unusedSimpArgs false
theorem tenth_W : ∃ p, p + 1 = 4591870180066957722 ∧ p < 9218868437227405312 ∧ fW 52 p * 20 ≤ 2 ^ 1075 ∧ 2 ^ 1075 < fW 52 (p + 1) * 20 ∧ (fW 52 p + fW 52 (p + 1)) * 10 < 2 ^ 1075 := ⟨4591870180066957721, by decide +kernel⟩
theorem tenth_X (wide : Bool) : dX wide 1 (-1) * 10 = CC * 2 ^ uu wide := by
  have hv := vv_eq
  obtain ⟨u, hu⟩ : ∃ u, vv = u + 1 := ⟨vv - 1, by omega⟩
  unfold dX CC
  rw [hu, show (-1 + ((u + 1 : Nat) : Int)).toNat = u by omega, Nat.pow_succ, Nat.one_mul]
  rw [Nat.mul_assoc, Nat.mul_comm (2 ^ uu wide), ← Nat.mul_assoc]
theorem times10 {a X C L : Nat} (hX : X * 10 = C * L) (hC : 0 < C) : (a * (2 * C) ≤ X ↔ a * 20 ≤ L) ∧ (X < a * (2 * C) ↔ L < a * 20) ∧ (a * C < X ↔ a * 10 < L) := by
  have e1 : a * (2 * C) * 10 = C * (a * 20) := by
    rw [show (20 : Nat) = 2 * 10 from rfl]
    simp only [Nat.mul_assoc, Nat.mul_comm, Nat.mul_left_comm]
  have e2 : a * C * 10 = C * (a * 10) := by simp only [Nat.mul_assoc, Nat.mul_comm, Nat.mul_left_comm]
  refine ⟨?_, ?_, ?_⟩
  · rw [← Nat.mul_le_mul_right_iff (show 0 < 10 by decide), e1, hX, Nat.mul_le_mul_left_iff hC]
  · rw [← Nat.mul_lt_mul_right (show 0 < 10 by decide), e1, hX, Nat.mul_lt_mul_left hC]
  · rw [← Nat.mul_lt_mul_right (show 0 < 10 by decide), e2, hX, Nat.mul_lt_mul_left hC]
theorem tenth_read : rdX true (dX true 1 (-1)) = 4591870180066957722 := by
  obtain ⟨p, hp, hi, w1, w2, w3⟩ := tenth_W
  have hX := tenth_X true
  have hu : uu true = 1075 := rfl
  have hf : ff true = 52 := rfl
  have hii : ii true = 9218868437227405312 := rfl
  obtain ⟨L, hL⟩ : ∃ L, 2 ^ 1075 = L := ⟨_, rfl⟩
  rw [hu, hL] at hX
  rw [hL] at w1 w2 w3
  have hfl : fFloor (ff true) (ii true) (dX true 1 (-1)) (2 * CC) p := by
    rw [hf, hii]
    exact ⟨Nat.le_of_lt hi, (times10 hX CC_pos).1.2 w1, fun _ => (times10 hX CC_pos).2.1.2 w2⟩
  rw [rd_at true hfl, if_neg (by omega), hf, if_pos (.inl ((times10 hX CC_pos).2.2.2 w3))]
  exact hp
def tenthL : List UInt8 := [49,48,48,48,48,48,48,48,48,48,48,48,48,48,48,48,48,53,53,53,49,49,49,53,49,50,51,49,50,53,55,56,50,55,48,50,49,49,56,49,53,56,51,52,48,52,53,52,49,48,49,53,54,50,53]
theorem tenth_v : exV true 4591870180066957722 = (tenthL, 0) := by decide +kernel
theorem tenth_short : shortD true 4591870180066957722 = ([49], 0) := by
  unfold shortD
  rw [tenth_v]
  have hl : tenthL.length = 54 + 1 := by decide
  show shortGo true _ (tenthL, 0) tenthL.length 1 = _
  have hn : nearU (tenthL, 0) 1 = 1 := by decide +kernel
  have hE : cE (tenthL, 0) 1 = -1 := by unfold cE; rfl
  have hb : bestD true 4591870180066957722 (tenthL, 0) 1 = some ([49], 0) := by
    unfold bestD
    rw [if_neg (by rw [hl]; decide), hn, hE, if_pos (show isP true 4591870180066957722 1 (-1) from tenth_read)]
    rfl
  rw [hl, shortGo_step, hb]
  rfl
theorem short_tenth : shortS true 4591870180066957722 = (S [49], 0, 0) := by
  have hb : bareN true 4591870180066957722 = 4591870180066957722 := by decide
  unfold shortS
  rw [hb, if_neg (by decide), if_neg (by decide), tenth_short]
theorem read_tenth : rdS true (S [49]) 0 = (4591870180066957722, 0) := by
  have h1 : InForm ([49] : List UInt8) 0 := ⟨allD_one, fun c t h => by
    injection h with h1 h2
    rw [← h1]; decide, rfl, fun h => by cases h⟩
  rw [rdS_five true h1 (by decide)]
  have : dX true (val [49]) (0 - (([49] : List UInt8).length : Int)) = dX true 1 (-1) := by rw [val_one]; rfl
  rw [this, tenth_read]
  rfl
theorem parts_ex : partsS true 4609434218613702656 = (false, 6755399441055744, -52, 0) := by decide +kernel
theorem lives5 : Ev (fun k => platenlaw05_lives.f k) true := by
  have h1 := read_eq true (S [49]) 0
  rw [read_tenth] at h1
  have h2 := shortest_eq true 4591870180066957722 (by decide)
  rw [short_tenth] at h2
  have h3 := parts_eq true 4609434218613702656 (by decide)
  rw [parts_ex] at h3
  unfold platenlaw05_lives.f
  refine Ev.bind (g := fun k => short_Read.f k (⟨#[49]⟩ : ByteArray) 0 64) h1 ?_
  refine Ev.bind (g := fun k => short_Shortest.f k 4591870180066957722 64) h2 ?_
  refine Ev.congr (fun k => ?_) (Ev.now _)
  rw [show short_Parts.f 4609434218613702656 64 = some (false, 6755399441055744, -52, 0) from h3]
  simp [toList_L, L_S]
theorem livesEnd : Ev (fun k => (platenlaw05_lives.f k).bind fun t => some t) true := Ev.bind lives5 (Ev.now _)
theorem wf_u64 {a : Int} (h : (Lit.int .u64 a).wf = true) : ∃ n : Nat, a = n ∧ n < 18446744073709551616 := by
  have h2 : 0 ≤ a ∧ a < 18446744073709551616 := by
    simp [Lit.wf, IntKind.min, IntKind.max, IntKind.bits, IntKind.signed] at h
    omega
  exact ⟨a.toNat, by omega, by omega⟩
end Go.Proofs.YtmeapdchnnpceaaDoor.Pure
end
section
namespace Go.Proofs.YtmeapdchnnpceaaDoor.Fn
open Go.RowKit Go.Proofs.YtmeapdchnnpceaaDoorW.PrintWords Go.Proofs.YtmeapdchnnpceaaDoorW.PrintLast Go.Proofs.YtmeapdchnnpceaaDoorW.PrintMore
attribute [local go_sem] min2_int min_two
set_option linter.unusedVariables false
set_option linter.unusedSimpArgs false
def platenlaw05_ShortParts.f (k : Nat) (a0 : Int) (a1 : Int) : Option (Bool) := (short_Parts.f a0 a1).bind fun bt312 => ((platenref05_Parts.f k a0 a1).bind fun bt316 => (if (bt312.1 == bt316.1) = true then (if bt312.2.1 = bt316.2.1 then (if bt312.2.2.1 = bt316.2.2.1 then (if bt312.2.2.2 = bt316.2.2.2 then ((platenlaw05_lives.f k).bind fun t320 => (some t320)) else (some false)) else (some false)) else (some false)) else (some false)))
set_option maxHeartbeats 8000000 in
set_option maxRecDepth 100000 in
theorem platenlaw05_ShortParts.calls (k : Nat) (a0 : Int) (a1 : Int) (r : Bool) (w : World) (h : platenlaw05_ShortParts.f k a0 a1 = some r) :
  Calls Tryd.prog 3 #[.int .u64 a0, .int .i64 a1] w fun e w' => e = .returned (.bool r) ∧ Below w.heap.size w w' := by
 have HB := Aside0.mk (Below.refl w.heap.size w)
 have H : ((short_Parts.f a0 a1).bind fun bt312 => ((platenref05_Parts.f k a0 a1).bind fun bt316 => (if (bt312.1 == bt316.1) = true then (if bt312.2.1 = bt316.2.1 then (if bt312.2.2.1 = bt316.2.2.1 then (if bt312.2.2.2 = bt316.2.2.2 then ((platenlaw05_lives.f k).bind fun t320 => (some t320)) else (some false)) else (some false)) else (some false)) else (some false)))) = some r := h
 clear h
 replace H := Option.bind_eq_some_iff.mp H
 obtain ⟨⟨t312, t313, t314, t315⟩, A30, H⟩ := H
 replace H : ((platenref05_Parts.f k a0 a1).bind fun bt316 => (if (t312 == bt316.1) = true then (if t313 = bt316.2.1 then (if t314 = bt316.2.2.1 then (if t315 = bt316.2.2.2 then ((platenlaw05_lives.f k).bind fun t320 => (some t320)) else (some false)) else (some false)) else (some false)) else (some false))) = some r := H
 have A3 := Aside0.mk A30
 clear A30
 replace H := Option.bind_eq_some_iff.mp H
 obtain ⟨⟨t316, t317, t318, t319⟩, A40, H⟩ := H
 replace H : (if (t312 == t316) = true then (if t313 = t317 then (if t314 = t318 then (if t315 = t319 then ((platenlaw05_lives.f k).bind fun t320 => (some t320)) else (some false)) else (some false)) else (some false)) else (some false)) = some r := H
 have A4 := Aside0.mk A40
 clear A40
 by_cases c5 : (t312 == t316) = true
 ·rw [if_pos c5] at H
  have c5b0 : (t312 == t316) = true := c5
  (try (have c5b1 : decide (t312 = t316) = true := by simpa using c5))
  (try (have c5b2 : (t312 == t316) = true := by simpa using c5))
  clear c5
  by_cases c6 : t313 = t317
  ·rw [if_pos c6] at H
   have c6b0 : (t313 == t317) = true := beq_iff_eq.mpr c6
   have c6b1 : (t313 != t317) = false := bne_eq_false_iff_eq.mpr c6
   clear c6
   by_cases c7 : t314 = t318
   ·rw [if_pos c7] at H
    have c7b0 : (t314 == t318) = true := beq_iff_eq.mpr c7
    have c7b1 : (t314 != t318) = false := bne_eq_false_iff_eq.mpr c7
    clear c7
    by_cases c8 : t315 = t319
    ·rw [if_pos c8] at H
     have c8b0 : (t315 == t319) = true := beq_iff_eq.mpr c8
     have c8b1 : (t315 != t319) = false := bne_eq_false_iff_eq.mpr c8
     clear c8
     replace H := Option.bind_eq_some_iff.mp H
     obtain ⟨t320, A90, H⟩ := H
     replace H : (some t320) = some r := H
     have A9 := Aside0.mk A90
     clear A90
     obtain rfl := Option.some.inj H
     go_enter Tryd.func3, Tryd.ntmps3
     go_wp2_with (first | ((with_reducible refine gate_callee (f := 13) rfl ?_); refine goesL_ (some 16) rfl rfl Tryd.func13 (by kernel_rfl) rfl #[.int .u64 a0, .int .i64 a1] rfl (by (try simp only [List.map_toArray, List.map_cons, List.map_nil]); first | done | rfl | (simp only [List.length_drop, List.length_take]; rfl)) ?_; (with_reducible refine (short_Parts.calls a0 a1 t312 t313 t314 t315 _ A3.out).mono ?_); rintro e w10 ⟨rfl, hb⟩; refine ⟨_, rfl, ?_⟩; have n0_ := Aside0.mk (below_step (by repeat (first | (with_reducible first | exact HB.out | apply below_alloc | apply pw_below_drewN | apply below_drew1) | exact HB.out)) hb); clear HB; have HB := n0_; clear n0_; (try clear hb); (try clear hb2); (try clear hk); (try clear hi)) | ((with_reducible refine gate_callee (f := 14) rfl ?_); refine goesL_ (some 24) rfl rfl Tryd.func14 (by kernel_rfl) rfl #[.int .u64 a0, .int .i64 a1] rfl (by (try simp only [List.map_toArray, List.map_cons, List.map_nil]); first | done | rfl | (simp only [List.length_drop, List.length_take]; rfl)) ?_; (with_reducible refine (platenref05_Parts.calls k a0 a1 t316 t317 t318 t319 _ A4.out).mono ?_); rintro e w' ⟨rfl, ⟨nd, rfl⟩⟩; refine ⟨_, rfl, ?_⟩) | (go_at_call 15; (with_reducible refine (platenlaw05_lives.calls k  t320 _ A9.out).mono ?_); rintro e w11 ⟨rfl, hb⟩; have n0_ := Aside0.mk (below_step (by repeat (first | (with_reducible first | exact HB.out | apply below_alloc | apply pw_below_drewN | apply below_drew1) | exact HB.out)) hb); clear HB; have HB := n0_; clear n0_; (try clear hb); (try clear hb2); (try clear hk); (try clear hi)))
     go_ret
     exact ⟨by first | rfl | (simp [errW_none, errW_some] <;> rfl) | (simp [*, errW_none, errW_some] <;> rfl), by repeat (first | (with_reducible first | exact HB.out | apply below_alloc | apply pw_below_drewN | apply below_drew1) | exact HB.out)⟩
    ·rw [if_neg c8] at H
     have c8b0 : (t315 == t319) = false := beq_eq_false_iff_ne.mpr c8
     have c8b1 : (t315 != t319) = true := bne_iff_ne.mpr c8
     obtain rfl := Option.some.inj H
     go_enter Tryd.func3, Tryd.ntmps3
     go_wp2_with (first | ((with_reducible refine gate_callee (f := 13) rfl ?_); refine goesL_ (some 16) rfl rfl Tryd.func13 (by kernel_rfl) rfl #[.int .u64 a0, .int .i64 a1] rfl (by (try simp only [List.map_toArray, List.map_cons, List.map_nil]); first | done | rfl | (simp only [List.length_drop, List.length_take]; rfl)) ?_; (with_reducible refine (short_Parts.calls a0 a1 t312 t313 t314 t315 _ A3.out).mono ?_); rintro e w12 ⟨rfl, hb⟩; refine ⟨_, rfl, ?_⟩; have n0_ := Aside0.mk (below_step (by repeat (first | (with_reducible first | exact HB.out | apply below_alloc | apply pw_below_drewN | apply below_drew1) | exact HB.out)) hb); clear HB; have HB := n0_; clear n0_; (try clear hb); (try clear hb2); (try clear hk); (try clear hi)) | ((with_reducible refine gate_callee (f := 14) rfl ?_); refine goesL_ (some 24) rfl rfl Tryd.func14 (by kernel_rfl) rfl #[.int .u64 a0, .int .i64 a1] rfl (by (try simp only [List.map_toArray, List.map_cons, List.map_nil]); first | done | rfl | (simp only [List.length_drop, List.length_take]; rfl)) ?_; (with_reducible refine (platenref05_Parts.calls k a0 a1 t316 t317 t318 t319 _ A4.out).mono ?_); rintro e w' ⟨rfl, ⟨nd, rfl⟩⟩; refine ⟨_, rfl, ?_⟩))
     go_ret
     exact ⟨by first | rfl | (simp [errW_none, errW_some] <;> rfl) | (simp [*, errW_none, errW_some] <;> rfl), by repeat (first | (with_reducible first | exact HB.out | apply below_alloc | apply pw_below_drewN | apply below_drew1) | exact HB.out)⟩
   ·rw [if_neg c7] at H
    have c7b0 : (t314 == t318) = false := beq_eq_false_iff_ne.mpr c7
    have c7b1 : (t314 != t318) = true := bne_iff_ne.mpr c7
    obtain rfl := Option.some.inj H
    go_enter Tryd.func3, Tryd.ntmps3
    go_wp2_with (first | ((with_reducible refine gate_callee (f := 13) rfl ?_); refine goesL_ (some 16) rfl rfl Tryd.func13 (by kernel_rfl) rfl #[.int .u64 a0, .int .i64 a1] rfl (by (try simp only [List.map_toArray, List.map_cons, List.map_nil]); first | done | rfl | (simp only [List.length_drop, List.length_take]; rfl)) ?_; (with_reducible refine (short_Parts.calls a0 a1 t312 t313 t314 t315 _ A3.out).mono ?_); rintro e w13 ⟨rfl, hb⟩; refine ⟨_, rfl, ?_⟩; have n0_ := Aside0.mk (below_step (by repeat (first | (with_reducible first | exact HB.out | apply below_alloc | apply pw_below_drewN | apply below_drew1) | exact HB.out)) hb); clear HB; have HB := n0_; clear n0_; (try clear hb); (try clear hb2); (try clear hk); (try clear hi)) | ((with_reducible refine gate_callee (f := 14) rfl ?_); refine goesL_ (some 24) rfl rfl Tryd.func14 (by kernel_rfl) rfl #[.int .u64 a0, .int .i64 a1] rfl (by (try simp only [List.map_toArray, List.map_cons, List.map_nil]); first | done | rfl | (simp only [List.length_drop, List.length_take]; rfl)) ?_; (with_reducible refine (platenref05_Parts.calls k a0 a1 t316 t317 t318 t319 _ A4.out).mono ?_); rintro e w' ⟨rfl, ⟨nd, rfl⟩⟩; refine ⟨_, rfl, ?_⟩))
    go_ret
    exact ⟨by first | rfl | (simp [errW_none, errW_some] <;> rfl) | (simp [*, errW_none, errW_some] <;> rfl), by repeat (first | (with_reducible first | exact HB.out | apply below_alloc | apply pw_below_drewN | apply below_drew1) | exact HB.out)⟩
  ·rw [if_neg c6] at H
   have c6b0 : (t313 == t317) = false := beq_eq_false_iff_ne.mpr c6
   have c6b1 : (t313 != t317) = true := bne_iff_ne.mpr c6
   obtain rfl := Option.some.inj H
   go_enter Tryd.func3, Tryd.ntmps3
   go_wp2_with (first | ((with_reducible refine gate_callee (f := 13) rfl ?_); refine goesL_ (some 16) rfl rfl Tryd.func13 (by kernel_rfl) rfl #[.int .u64 a0, .int .i64 a1] rfl (by (try simp only [List.map_toArray, List.map_cons, List.map_nil]); first | done | rfl | (simp only [List.length_drop, List.length_take]; rfl)) ?_; (with_reducible refine (short_Parts.calls a0 a1 t312 t313 t314 t315 _ A3.out).mono ?_); rintro e w14 ⟨rfl, hb⟩; refine ⟨_, rfl, ?_⟩; have n0_ := Aside0.mk (below_step (by repeat (first | (with_reducible first | exact HB.out | apply below_alloc | apply pw_below_drewN | apply below_drew1) | exact HB.out)) hb); clear HB; have HB := n0_; clear n0_; (try clear hb); (try clear hb2); (try clear hk); (try clear hi)) | ((with_reducible refine gate_callee (f := 14) rfl ?_); refine goesL_ (some 24) rfl rfl Tryd.func14 (by kernel_rfl) rfl #[.int .u64 a0, .int .i64 a1] rfl (by (try simp only [List.map_toArray, List.map_cons, List.map_nil]); first | done | rfl | (simp only [List.length_drop, List.length_take]; rfl)) ?_; (with_reducible refine (platenref05_Parts.calls k a0 a1 t316 t317 t318 t319 _ A4.out).mono ?_); rintro e w' ⟨rfl, ⟨nd, rfl⟩⟩; refine ⟨_, rfl, ?_⟩))
   go_ret
   exact ⟨by first | rfl | (simp [errW_none, errW_some] <;> rfl) | (simp [*, errW_none, errW_some] <;> rfl), by repeat (first | (with_reducible first | exact HB.out | apply below_alloc | apply pw_below_drewN | apply below_drew1) | exact HB.out)⟩
 ·rw [if_neg c5] at H
  have c5b0 : (t312 == t316) = false := by simpa using c5
  (try (have c5b1 : decide (t312 = t316) = false := by simpa using c5))
  (try (have c5b2 : (t312 == t316) = false := by simpa using c5))
  (try (have c5b3 : ¬ (t312 = t316) := by simpa using c5))
  clear c5
  obtain rfl := Option.some.inj H
  go_enter Tryd.func3, Tryd.ntmps3
  go_wp2_with (first | ((with_reducible refine gate_callee (f := 13) rfl ?_); refine goesL_ (some 16) rfl rfl Tryd.func13 (by kernel_rfl) rfl #[.int .u64 a0, .int .i64 a1] rfl (by (try simp only [List.map_toArray, List.map_cons, List.map_nil]); first | done | rfl | (simp only [List.length_drop, List.length_take]; rfl)) ?_; (with_reducible refine (short_Parts.calls a0 a1 t312 t313 t314 t315 _ A3.out).mono ?_); rintro e w15 ⟨rfl, hb⟩; refine ⟨_, rfl, ?_⟩; have n0_ := Aside0.mk (below_step (by repeat (first | (with_reducible first | exact HB.out | apply below_alloc | apply pw_below_drewN | apply below_drew1) | exact HB.out)) hb); clear HB; have HB := n0_; clear n0_; (try clear hb); (try clear hb2); (try clear hk); (try clear hi)) | ((with_reducible refine gate_callee (f := 14) rfl ?_); refine goesL_ (some 24) rfl rfl Tryd.func14 (by kernel_rfl) rfl #[.int .u64 a0, .int .i64 a1] rfl (by (try simp only [List.map_toArray, List.map_cons, List.map_nil]); first | done | rfl | (simp only [List.length_drop, List.length_take]; rfl)) ?_; (with_reducible refine (platenref05_Parts.calls k a0 a1 t316 t317 t318 t319 _ A4.out).mono ?_); rintro e w' ⟨rfl, ⟨nd, rfl⟩⟩; refine ⟨_, rfl, ?_⟩))
  go_ret
  exact ⟨by first | rfl | (simp [errW_none, errW_some] <;> rfl) | (simp [*, errW_none, errW_some] <;> rfl), by repeat (first | (with_reducible first | exact HB.out | apply below_alloc | apply pw_below_drewN | apply below_drew1) | exact HB.out)⟩
end Go.Proofs.YtmeapdchnnpceaaDoor.Fn
end
section
namespace Go.Proofs.YtmeapdchnnpceaaDoor.Pure
open Go.RowKit Go.Proofs.YtmeapdchnnpceaaDoorW.PrintWords Go.Proofs.YtmeapdchnnpceaaDoor.Fn
set_option linter.unusedVariables false
theorem ShortParts : ∀ (a0 : Int) (a1 : Int), (Lit.int .u64 a0).wf = true → (Lit.int .i64 a1).wf = true → ∃ k, platenlaw05_ShortParts.f k a0 a1 = some true := by
  intro a0 a1 h0 _
  obtain ⟨a, rfl, ha⟩ := wf_u64 h0
  refine Ev.rounds (g := fun k => platenlaw05_ShortParts.f k (a : Int) a1) ?_
  unfold platenlaw05_ShortParts.f
  by_cases hs : a1 = 32 ∨ a1 = 64
  · obtain ⟨wide, rfl⟩ := size_two hs
    refine Ev.congr (fun k => by rw [parts_eq wide a ha, Option.bind_some]) ?_
    refine Ev.bind (rparts_eq wide a ha) ?_
    exact Ev.congr (fun k => by rw [if_pos (beq_self_eq_true _), if_pos rfl, if_pos rfl, if_pos rfl]) livesEnd
  · have h1 : a1 ≠ 32 := fun e => hs (.inl e)
    have h2 : a1 ≠ 64 := fun e => hs (.inr e)
    refine Ev.congr (fun k => by rw [parts_no (a : Int) h1 h2, Option.bind_some]) ?_
    refine Ev.bind (rparts_no (a : Int) h1 h2) ?_
    exact Ev.congr (fun k => by rw [if_pos (beq_self_eq_true _), if_pos rfl, if_pos rfl, if_pos rfl]) livesEnd
end Go.Proofs.YtmeapdchnnpceaaDoor.Pure
end
