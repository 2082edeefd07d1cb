/- The law FloatsHexBack: the walks through its functions and its plain law (part 2). Own texts and the kit's printed words for this seat, without what the law does not use: put together by merge.py (of this work). -/
import Derived.Test.YtecpgdfnamkfdaaGreatDoorMFloatsHexBack1
section
namespace Go.Proofs.YtecpgdfnamkfdaaGreatDoor.Fn
open Go.RowKit Go.Proofs.YtecpgdfnamkfdaaGreatDoorW.PrintWords Go.Proofs.YtecpgdfnamkfdaaGreatDoorW.PrintLast Go.Proofs.YtecpgdfnamkfdaaGreatDoorW.PrintMore
attribute [local go_sem] fnW_0 fnW_1 fnW_2 fnW_3 fnW_4 fnW_5 fnW_guard fnW_eql max2_int min2_int max_two min_two
set_option linter.unusedVariables false
set_option linter.unusedSimpArgs false
def bigdec_Places.f (k : Nat) (a0_0 : ByteArray) (a0_1 : Int) (a1 : Int) : Option (ByteArray × Int × Int) := (bigdec_Norm.f k a0_0 a0_1).bind fun bt259 => (if bt259.2.2 = 0 then ((bigdec_round.f k bt259.1 bt259.2.1 (wrap64 (bt259.2.1 + (mx (-20000) (mn a1 20000))))).bind fun bt262 => (some (bt262.1, bt262.2, 0))) else (some ((⟨#[]⟩ : ByteArray), 0, bt259.2.2)))
set_option maxHeartbeats 8000000 in
set_option maxRecDepth 100000 in
theorem bigdec_Places.calls (k : Nat) (a0_0 : ByteArray) (a0_1 : Int) (a1 : Int) (r1 : ByteArray) (r2 : Int) (r3 : Int) (w : World) (h : bigdec_Places.f k a0_0 a0_1 a1 = some (r1, r2, r3)) :
  Calls Tryz.prog 33 #[.agg #[.string a0_0, .int .i64 a0_1], .int .i64 a1] w fun e w' => e = .returned (.tuple #[.agg #[.string r1, .int .i64 r2], .int .i64 r3]) ∧ Below w.heap.size w w' := by
 have hu42 := Tryz.underlying42
 have HB := Aside0.mk (Below.refl w.heap.size w)
 have H : ((bigdec_Norm.f k a0_0 a0_1).bind fun bt259 => (if bt259.2.2 = 0 then ((bigdec_round.f k bt259.1 bt259.2.1 (wrap64 (bt259.2.1 + (mx (-20000) (mn a1 20000))))).bind fun bt262 => (some (bt262.1, bt262.2, 0))) else (some ((⟨#[]⟩ : ByteArray), 0, bt259.2.2)))) = some (r1, r2, r3) := h
 clear h
 replace H := bs H
 obtain ⟨⟨t259, t260, t261⟩, A3, H⟩ := H
 dsimp only at H
 go_enter Tryz.func33, Tryz.ntmps33
 go_upto_if 13 with (first | ((with_reducible refine gate_dst (N := 2) rfl ?_); refine box_event rfl (N := 2) rfl (cs := #[.string a0_0, .int .i64 a0_1]) (t := 42) gz ?_; intro gb257 hg w4 hbox hb; have GE257 := gN bz hg; have BK257 := Aside0.mk hbox; replace HB := bN bz hb; clear hb hbox hg) | ((with_reducible refine gate_dst (N := 4) rfl ?_); refine box_event rfl (N := 4) rfl (cs := #[.string (⟨#[]⟩ : ByteArray), .int .i64 0]) (t := 42) gz ?_; intro gb258 hg w5 hbox hb; have GE258 := gN bz hg; have NB257_258 := lN (g := gb257) (cs := #[.string a0_0, .int .i64 a0_1]) hg bk; have NB258_257 := rN (g := gb257) (cs := #[.string a0_0, .int .i64 a0_1]) hg bk; replace BK257 := kN (g := gb257) (cs := #[.string a0_0, .int .i64 a0_1]) hb bk; have BK258 := Aside0.mk hbox; replace HB := bN bz hb; clear hb hbox hg; have hnb6 := NB257_258.out; have hnc6 := NB258_257.out; obtain ⟨hcz7_0, hcz7_1, hfz7_0, hfz7_1⟩ := cz2 (W := w5) BK257) | ((with_reducible refine gate_callee (f := 50) rfl ?_); refine goesL_ (some 9) rfl rfl Tryz.func50 (by kernel_rfl) rfl #[.agg #[.string a0_0, .int .i64 a0_1]] rfl lz ?_; (with_reducible refine (bigdec_Norm.calls k a0_0 a0_1 t259 t260 t261 _ A3.out).mono ?_); rintro e w8 ⟨rfl, hb⟩; refine ⟨_, rfl, ?_⟩; replace BK257 := kN (g := gb257) (cs := #[.string a0_0, .int .i64 a0_1]) hb bk; replace BK258 := kN (g := gb258) (cs := #[.string (⟨#[]⟩ : ByteArray), .int .i64 0]) hb bk; replace HB := bN bz hb; (try clear hb); (try clear hb2); (try clear hk); (try clear hi); obtain ⟨hcz9_0, hcz9_1, hfz9_0, hfz9_1⟩ := cz2 (W := w8) BK257))
 (try simp only [Act.put, List.setIfInBounds_toArray, List.set_cons_zero, List.set_cons_succ])
 by_cases c10 : t261 = 0
 ·replace H := hE H c10
  obtain ⟨c10b0, c10b1⟩ := eT c10
  clear c10
  try first | rw [c10b0] | rw [c10b1]
  obtain ⟨ji11, hji11⟩ : ∃ j_ : Int, (mn a1 20000) = j_ := ⟨_, rfl⟩
  (first | rw [hji11] at H | simp only [hji11] at H)
  (try (have hji11h : ji11 ≤ 20000 := by (rw [← hji11]; unfold mn; (repeat' split) <;> omega)))
  (try (have hji11g : ji11 ≤ 64 := by omega))
  have hji11_ : (if 20000 < a1 then 20000 else a1) = ji11 := hji11
  obtain ⟨ji12, hji12⟩ : ∃ j_ : Int, (mx (-20000) (ji11)) = j_ := ⟨_, rfl⟩
  (first | rw [hji12] at H | simp only [hji12] at H)
  have hji12_ : (if (-20000) < (ji11) then (ji11) else (-20000)) = ji12 := hji12
  replace H := bs H
  obtain ⟨⟨t262, t263⟩, A13, H⟩ := H
  dsimp only at H
  simp only [Option.some.injEq, Prod.mk.injEq] at H
  obtain ⟨rfl, rfl, rfl⟩ := H
  have hnb14 := NB257_258.out
  have hnc14 := NB258_257.out
  obtain ⟨hcz15_0, hcz15_1, hfz15_0, hfz15_1⟩ := cz2 (W := w8) BK257
  go_wp2_with (first | ((with_reducible refine gate_callee (f := 51) rfl ?_); refine goesL_ (some 23) rfl rfl Tryz.func51 (by kernel_rfl) rfl #[.agg #[.string t259, .int .i64 t260], .int .i64 (wrap64 (t260 + (ji12)))] rfl (by (try simp only [List.map_toArray, List.map_cons, List.map_nil]); first | done | (simp only [hji12]; rfl) | rfl | (simp only [List.length_drop, List.length_take]; rfl)) ?_; (with_reducible refine (bigdec_round.calls k t259 t260 (wrap64 (t260 + (ji12))) t262 t263 _ A13.out).mono ?_); rintro e w16 ⟨rfl, hb⟩; refine ⟨_, rfl, ?_⟩; replace BK257 := kN (g := gb257) (cs := #[.string t259, .int .i64 t260]) hb bk; replace BK258 := kN (g := gb258) (cs := #[.string (⟨#[]⟩ : ByteArray), .int .i64 0]) hb bk; replace HB := bN bz hb; (try clear hb); (try clear hb2); (try clear hk); (try clear hi); obtain ⟨hcz17_0, hcz17_1, hfz17_0, hfz17_1⟩ := cz2 (W := w16) BK258))
  refine bodyPost_ret (results_ct rfl _ _ gb258 42 #[.string t262, .int .i64 t263] (0, 0) _ rfl bk Tryz.underlying42 rfl (by kernel_rfl)) rfl ?_
  exact ⟨by first | rfl | (simp [errW_none, errW_some] <;> rfl) | (simp only [← hji11, ← hji12]; first | rfl | (simp [errW_none, errW_some] <;> rfl)) | (simp [*, errW_none, errW_some] <;> rfl), bz⟩
 ·replace H := hN H c10
  obtain ⟨c10b0, c10b1⟩ := eF c10
  try first | rw [c10b0] | rw [c10b1]
  simp only [Option.some.injEq, Prod.mk.injEq] at H
  obtain ⟨rfl, rfl, rfl⟩ := H
  have hnb18 := NB258_257.out
  have hnc18 := NB257_258.out
  obtain ⟨hcz19_0, hcz19_1, hfz19_0, hfz19_1⟩ := cz2 (W := w8) BK258
  go_wp2
  refine bodyPost_ret (results_ct rfl _ _ gb258 42 #[.string (⟨#[]⟩ : ByteArray), .int .i64 0] (0, 0) _ rfl bk Tryz.underlying42 rfl (by kernel_rfl)) rfl ?_
  exact ⟨ez, bz⟩
end Go.Proofs.YtecpgdfnamkfdaaGreatDoor.Fn
end
section
namespace Go.Proofs.YtecpgdfnamkfdaaGreatDoor.Fn
open Go.RowKit Go.Proofs.YtecpgdfnamkfdaaGreatDoorW.PrintWords
set_option linter.unusedVariables false
def strings_Repeat.f (s : ByteArray) (c : Int) : Option ByteArray :=
  if 0 ≤ c ∧ c ≤ 1000000 ∧ s.size ≤ 1000000 then some ⟨(Lib.repeatL s.data.toList c.toNat).toArray⟩ else none
theorem strings_Repeat.calls (a0 : ByteArray) (a1 : Int) (r : ByteArray) (w : World) (h : strings_Repeat.f a0 a1 = some r) :
    Calls Tryz.prog 46 #[.string a0, .int .i64 a1] w fun e w' => e = .returned (.string r) ∧ Below w.heap.size w w' := by
  unfold strings_Repeat.f at h
  split at h
  · rename_i hc
    obtain rfl := Option.some.inj h
    obtain ⟨n, rfl⟩ : ∃ n : Nat, a1 = n := ⟨a1.toNat, by omega⟩
    have hm : a0.size * n ≤ 1000000 * 1000000 := Nat.mul_le_mul (by omega) (by omega)
    refine (Tryz.strings_Repeat a0 n w (by omega) (by omega)).mono ?_
    rintro e w' ⟨rfl, hb⟩
    exact ⟨by rw [Int.toNat_natCast], hb⟩
  · cases h
theorem cell_spot {w : World} {a : Addr} {v : Value} (h : w.cell? a = some v) : a.spot = none ∧ a.block < w.heap.size := by
  unfold World.cell? at h
  split at h
  · rename_i hg
    split at h
    · cases h
    · rename_i hs
      refine ⟨?_, (Array.getElem?_eq_some_iff.1 hg).1⟩
      cases hh : a.spot with
      | none => rfl
      | some x => simp [hh] at hs
  · cases h
theorem add_off (b o j : Nat) : (⟨b, o, none⟩ : Addr).add j = ⟨b, o + j, none⟩ := by
  unfold Addr.add
  split
  · rename_i e; subst e; rfl
  · rfl
def strings_Join.f (l : List ByteArray) (sep : ByteArray) : Option ByteArray :=
  if l.length ≤ 1000 ∧ (Lib.join (l.map (·.data.toList)) sep.data.toList).length ≤ 1000000 then some ⟨(Lib.join (l.map (·.data.toList)) sep.data.toList).toArray⟩ else none
theorem strings_Join.calls (A0 : Option Addr) (c0 : Nat) (l0 : List ByteArray) (a1 : ByteArray) (r : ByteArray) (w : World) (hr0 : Kd.C Kd.string w A0 l0.length l0) (hc0 : l0.length ≤ c0) (h : strings_Join.f l0 a1 = some r) :
    Calls Tryz.prog 144 #[.slice A0 l0.length c0, .string a1] w fun e w' => e = .returned (.string r) ∧ Below w.heap.size w w' := by
  unfold strings_Join.f at h
  split at h
  · rename_i hc
    obtain rfl := Option.some.inj h
    cases l0 with
    | nil =>
      refine (Tryz.strings_Join_none A0 c0 a1 w).mono ?_
      rintro e w' ⟨rfl, rfl⟩
      exact ⟨rfl, Below.refl _ _⟩
    | cons x t =>
      obtain ⟨ad, rfl, h0⟩ := Kd.at_string hr0 0 (by omega) (by simp)
      obtain ⟨hs, hb⟩ := cell_spot h0
      obtain ⟨bk, o, sp⟩ := ad
      have hs : sp = none := hs
      subst hs
      refine Tryz.strings_Join bk o c0 (x :: t) a1 w (fun j y hj => ?_) hb (by omega) hc0 (by omega)
      have hjl : j < (x :: t).length := by
        rw [List.getElem?_eq_some_iff] at hj
        exact hj.1
      obtain ⟨ad2, e2, h2⟩ := Kd.at_string hr0 (j : Int) (by omega) (by omega)
      cases e2
      have e3 : rdOf ByteArray.empty (x :: t) (j : Int) = y := by
        unfold rdOf
        rw [Int.toNat_natCast, List.getD_eq_getElem?_getD, hj]
        rfl
      rw [e3, Int.toNat_natCast, add_off] at h2
      exact h2
  · cases h
def strings_ToUpper.f (s : ByteArray) : Option ByteArray :=
  if s.size ≤ 1000000 ∧ s.data.toList.all (fun b => b.toNat < 128) = true then some ⟨(Lib.toUpperA s.data.toList).toArray⟩ else none
theorem strings_ToUpper.calls (a0 : ByteArray) (r : ByteArray) (w : World) (h : strings_ToUpper.f a0 = some r) :
    Calls Tryz.prog 114 #[.string a0] w fun e w' => e = .returned (.string r) ∧ Below w.heap.size w w' := by
  unfold strings_ToUpper.f at h
  split at h
  · rename_i hc
    obtain rfl := Option.some.inj h
    refine Tryz.strings_ToUpper_ascii a0 w (by omega) (fun j b hj => ?_)
    have := List.all_eq_true.1 hc.2 b (List.mem_of_getElem? hj)
    simpa using this
  · cases h
def bits_Len64.f (x : Int) : Option Int := if 0 ≤ x ∧ x ≤ 18446744073709551615 then some (Lib.bitLen x.toNat : Int) else none
theorem bits_Len64.calls (a0 : Int) (r : Int) (w : World) (h : bits_Len64.f a0 = some r) :
    Calls Tryz.prog 112 #[.int .u64 a0] w fun e w' => e = .returned (.int .i64 r) ∧ Below w.heap.size w w' := by
  unfold bits_Len64.f at h
  split at h
  · rename_i hc
    obtain rfl := Option.some.inj h
    refine (Tryz.bits_Len64 a0 w hc.1 hc.2).mono ?_
    rintro e w' ⟨rfl, rfl⟩
    exact ⟨rfl, Below.refl _ _⟩
  · cases h
end Go.Proofs.YtecpgdfnamkfdaaGreatDoor.Fn
end
section
namespace Go.Proofs.YtecpgdfnamkfdaaGreatDoor.Fn
open Go.RowKit Go.Proofs.YtecpgdfnamkfdaaGreatDoorW.PrintWords Go.Proofs.YtecpgdfnamkfdaaGreatDoorW.PrintLast Go.Proofs.YtecpgdfnamkfdaaGreatDoorW.PrintMore
attribute [local go_sem] fnW_0 fnW_1 fnW_2 fnW_3 fnW_4 fnW_5 fnW_guard fnW_eql max2_int min2_int max_two min_two
set_option linter.unusedVariables false
set_option linter.unusedSimpArgs false
def floats_filled.f (a0 : ByteArray) (a1 : Int) : Option (ByteArray) := (strings_Repeat.f (⟨#[48]⟩ : ByteArray) (mx 0 (wrap64 (a1 - (a0.size : Int))))).bind fun t245 => (if a0.size + t245.size ≤ 9223372036854775807 then (some (a0 ++ t245)) else (none))
set_option maxHeartbeats 8000000 in
set_option maxRecDepth 100000 in
theorem floats_filled.calls (a0 : ByteArray) (a1 : Int) (r : ByteArray) (w : World) (h : floats_filled.f a0 a1 = some r) :
  Calls Tryz.prog 105 #[.string a0, .int .i64 a1] w fun e w' => e = .returned (.string r) ∧ Below w.heap.size w w' := by
 have HB := Aside0.mk (Below.refl w.heap.size w)
 have H : ((strings_Repeat.f (⟨#[48]⟩ : ByteArray) (mx 0 (wrap64 (a1 - (a0.size : Int))))).bind fun t245 => (if a0.size + t245.size ≤ 9223372036854775807 then (some (a0 ++ t245)) else (none))) = some r := h
 clear h
 obtain ⟨ji3, hji3⟩ : ∃ j_ : Int, (mx 0 (wrap64 (a1 - (a0.size : Int)))) = j_ := ⟨_, rfl⟩
 (first | rw [hji3] at H | simp only [hji3] at H)
 (try (have hji3l : 0 ≤ ji3 := by (rw [← hji3]; unfold mx; (repeat' split) <;> omega)))
 (try (have hji3m : 0 ≤ ji3 := by omega))
 have hji3_ : (if 0 < (wrap64 (a1 - (a0.size : Int))) then (wrap64 (a1 - (a0.size : Int))) else 0) = ji3 := hji3
 replace H := bs H
 obtain ⟨t245, A4, H⟩ := H
 by_cases c5 : a0.size + t245.size ≤ 9223372036854775807
 ·replace H := hE H c5
  have c5b0 := eq_true c5
  have c5b1 : decide (a0.size + t245.size ≤ 9223372036854775807) = true := decide_eq_true c5
  try have c5b2 : (9223372036854775807 < a0.size + t245.size) = False := eq_false (Nat.not_lt.2 c5)
  obtain rfl := Option.some.inj H
  go_enter Tryz.func105, Tryz.ntmps105
  go_wp2_with (first | ((with_reducible refine gate_callee (f := 46) rfl ?_); refine goesL_ (some 11) rfl rfl Tryz.func46 (by kernel_rfl) rfl #[.string (⟨#[48]⟩ : ByteArray), .int .i64 ji3] rfl (by (try simp only [List.map_toArray, List.map_cons, List.map_nil]); first | done | (simp only [hji3]; rfl) | rfl | (simp only [List.length_drop, List.length_take]; rfl)) ?_; (with_reducible refine (strings_Repeat.calls (⟨#[48]⟩ : ByteArray) ji3 t245 _ A4.out).mono ?_); rintro e w6 ⟨rfl, hb⟩; refine ⟨_, rfl, ?_⟩; replace HB := bN bz hb; (try clear hb); (try clear hb2); (try clear hk); (try clear hi)))
  go_ret
  exact ⟨by first | rfl | (simp [errW_none, errW_some] <;> rfl) | (simp only [← hji3]; first | rfl | (simp [errW_none, errW_some] <;> rfl)) | (simp [*, errW_none, errW_some] <;> rfl), bz⟩
 ·replace H := hN H c5
  exact absurd H (by simp)
end Go.Proofs.YtecpgdfnamkfdaaGreatDoor.Fn
end
section
namespace Go.Proofs.YtecpgdfnamkfdaaGreatDoor.Fn
open Go.RowKit Go.Proofs.YtecpgdfnamkfdaaGreatDoorW.PrintWords Go.Proofs.YtecpgdfnamkfdaaGreatDoorW.PrintLast Go.Proofs.YtecpgdfnamkfdaaGreatDoorW.PrintMore
attribute [local go_sem] fnW_0 fnW_1 fnW_2 fnW_3 fnW_4 fnW_5 fnW_guard fnW_eql max2_int min2_int max_two min_two
set_option linter.unusedVariables false
set_option linter.unusedSimpArgs false
def floats_joined.f (l0 : List ByteArray) : Option (ByteArray) := (strings_Join.f l0 (⟨#[]⟩ : ByteArray)).bind fun t203 => (some t203)
set_option maxHeartbeats 8000000 in
set_option maxRecDepth 100000 in
theorem floats_joined.calls (A0 : Option Addr) (c0 : Nat) (l0 : List ByteArray) (r : ByteArray) (w : World) (hr0 : Kd.C Kd.string w A0 l0.length l0) (hc0 : l0.length ≤ c0) (h : floats_joined.f l0 = some r) :
  Calls Tryz.prog 109 #[.slice A0 l0.length c0] w fun e w' => e = .returned (.string r) ∧ Below w.heap.size w w' := by
 have HR0 := Aside0.mk hr0
 have HC0 := Aside0.mk hc0
 clear hr0 hc0
 have HB := Aside0.mk (Below.refl w.heap.size w)
 have H : ((strings_Join.f l0 (⟨#[]⟩ : ByteArray)).bind fun t203 => (some t203)) = some r := h
 clear h
 replace H := bs H
 obtain ⟨t203, A2, H⟩ := H
 obtain rfl := Option.some.inj H
 go_enter Tryz.func109, Tryz.ntmps109
 go_wp2_with (first | ((with_reducible refine gate_callee (f := 144) rfl ?_); refine goesL_ (some 4) rfl rfl Tryz.func144 (by kernel_rfl) rfl #[.slice A0 l0.length c0, .string (⟨#[]⟩ : ByteArray)] rfl lz ?_; (with_reducible refine (strings_Join.calls _ _ l0 (⟨#[]⟩ : ByteArray) t203 _ ?side1 ?side2 A2.out).mono ?_); (case side1 => repeat (first | exact HR0.out | (with_reducible refine Kd.C_alloc ?_ _) | (with_reducible refine Kd.C_drewN ?_ _) | (with_reducible refine Kd.C_drew ?_))); (case side2 => exact HC0.out); rintro e w3 ⟨rfl, hb⟩; refine ⟨_, rfl, ?_⟩; replace HB := bN bz hb; (try clear hb); (try clear hb2); (try clear hk); (try clear hi)))
 go_ret
 exact ⟨ez, bz⟩
end Go.Proofs.YtecpgdfnamkfdaaGreatDoor.Fn
end
section
namespace Go.Proofs.YtecpgdfnamkfdaaGreatDoor.Fn
open Go.RowKit Go.Proofs.YtecpgdfnamkfdaaGreatDoorW.PrintWords Go.Proofs.YtecpgdfnamkfdaaGreatDoorW.PrintLast Go.Proofs.YtecpgdfnamkfdaaGreatDoorW.PrintMore
attribute [local go_sem] fnW_0 fnW_1 fnW_2 fnW_3 fnW_4 fnW_5 fnW_guard fnW_eql max2_int min2_int max_two min_two
set_option linter.unusedVariables false
set_option linter.unusedSimpArgs false
def floats_float_pointed.f (a0_0 : Int) (a0_1 : Int) (a0_2 : Int) (a0_3 : Int) (a0_4 : Int) (a0_5 : Bool) (a0_6 : Int) (a1 : ByteArray) (a2 : ByteArray) : Option (ByteArray) := if a2.toList = ([] : List UInt8) then (if a0_5 = true then ((floats_joined.f (([a1, (⟨#[46]⟩ : ByteArray), a2] : List ByteArray))).bind fun t208 => (some t208)) else (some a1)) else ((floats_joined.f (([a1, (⟨#[46]⟩ : ByteArray), a2] : List ByteArray))).bind fun t212 => (some t212))
set_option maxHeartbeats 8000000 in
set_option maxRecDepth 100000 in
theorem floats_float_pointed.calls (a0_0 : Int) (a0_1 : Int) (a0_2 : Int) (a0_3 : Int) (a0_4 : Int) (a0_5 : Bool) (a0_6 : Int) (a1 : ByteArray) (a2 : ByteArray) (r : ByteArray) (w : World) (h : floats_float_pointed.f a0_0 a0_1 a0_2 a0_3 a0_4 a0_5 a0_6 a1 a2 = some r) :
  Calls Tryz.prog 107 #[.agg #[.int .u64 a0_0, .int .i64 a0_1, .int .u64 a0_2, .int .i64 a0_3, .int .i64 a0_4, .bool a0_5, .int .i32 a0_6], .string a1, .string a2] w fun e w' => e = .returned (.string r) ∧ Below w.heap.size w w' := by
 have hu74 := Tryz.underlying74
 have HB := Aside0.mk (Below.refl w.heap.size w)
 have H : (if a2.toList = ([] : List UInt8) then (if a0_5 = true then ((floats_joined.f (([a1, (⟨#[46]⟩ : ByteArray), a2] : List ByteArray))).bind fun t208 => (some t208)) else (some a1)) else ((floats_joined.f (([a1, (⟨#[46]⟩ : ByteArray), a2] : List ByteArray))).bind fun t212 => (some t212))) = some r := h
 clear h
 by_cases c4 : a2.toList = ([] : List UInt8)
 ·replace H := hE H c4
  have c4b0 : (a2.toList == ([] : List UInt8)) = true := beq_iff_eq.mpr c4
  have c4b1 : (a2.toList != ([] : List UInt8)) = false := bne_eq_false_iff_eq.mpr c4
  have c4b7 : a2.toList.isEmpty = true := by simpa using c4b0
  clear c4
  go_enter Tryz.func107, Tryz.ntmps107
  go_upto_if 13 with (first | ((with_reducible refine gate_dst (N := 3) rfl ?_); refine box_event rfl (N := 3) rfl (cs := #[.int .u64 a0_0, .int .i64 a0_1, .int .u64 a0_2, .int .i64 a0_3, .int .i64 a0_4, .bool a0_5, .int .i32 a0_6]) (t := 74) gz ?_; intro gb204 hg w5 hbox hb; have GW204 := gN bz hg; have GE204 := gN bz hg; have BK204 := Aside0.mk hbox; replace HB := bN bz hb; clear hb hbox hg; obtain ⟨hcz6_0, hcz6_1, hcz6_2, hcz6_3, hcz6_4, hcz6_5, hcz6_6, hfz6_0, hfz6_1, hfz6_2, hfz6_3, hfz6_4, hfz6_5, hfz6_6⟩ := cz7 (W := w5) BK204))
  (try simp only [Act.put, List.setIfInBounds_toArray, List.set_cons_zero, List.set_cons_succ])
  by_cases c7 : a0_5 = true
  ·subst c7
   replace H := hT H
   obtain ⟨y205, hy205⟩ : ∃ y_ : List ByteArray, y_ = (([a1, (⟨#[46]⟩ : ByteArray), a2] : List ByteArray)) := ⟨_, rfl⟩
   replace H : ((floats_joined.f y205).bind fun t208 => (some t208)) = some r := by first | (rw [hy205]; with_reducible exact H) | (have H2_ := (Option.bind_some _ _).symm.trans H; rw [hy205]; with_reducible exact H2_) | (have H2_ := (Option.bind_some _ _).symm.trans H; with_reducible exact H2_) | with_reducible exact H | (rw [hy205]; exact H) | exact H
   have Ny205 := Aside0.mk hy205
   clear hy205
   replace H := bs H
   obtain ⟨t208, A8, H⟩ := H
   obtain rfl := Option.some.inj H
   go_wp2_with (first | ((with_reducible refine gate_dst (N := 17) rfl ?_); refine Kd.R_lit Kd.string _ 9 ?hg (N := 17) ?hd (xs := ([a1, (⟨#[46]⟩ : ByteArray), a2] : List ByteArray)) (inner := [.string a1, .string (⟨#[46]⟩ : ByteArray), .string a2]) (ok := fun _ => True) (okp := fun _ => True) ?hr ?hp (fun _ hk => hk) trivial (Below.refl _ _) (Nat.le_refl _) (by simp) ?_; (case hd => rfl); (case hg => rfl); (case hr => first | (go_simp; done) | (go_simp; rfl)); (case hp => exact (Reps.one (show Kd.M Kd.string _ _ _ a1 [.string a1] from rfl) (Reps.one (show Kd.M Kd.string _ _ _ (⟨#[46]⟩ : ByteArray) [.string (⟨#[46]⟩ : ByteArray)] from rfl) (Reps.one (show Kd.M Kd.string _ _ _ a2 [.string a2] from rfl) (Reps.none _ _))))); intro v206 w9 ho10 hb hg_ hnew_; clear hg_ hnew_; (first | rw [← Ny205.out] at ho10 | (simp only [Int.reduceToNat] at ho10; rw [← Ny205.out] at ho10)); have n0_ := Aside0.mk (Kd.R_lower ho10 (below_size bz)); have n1_ := Aside0.mk (blk_below (g := gb204) (o := .cells #[.int .u64 a0_0, .int .i64 a0_1, .int .u64 a0_2, .int .i64 a0_3, .int .i64 a0_4, .bool true, .int .i32 a0_6] 74 (0, 0)) bk hb); have n2_ := Aside0.mk (below_step bz hb); clear BK204; clear HB; have HO207 := n0_; have BK204 := n1_; have HB := n2_; clear n0_ n1_ n2_; clear hb ho10; obtain ⟨Ao11, co11, eo11⟩ := Kd.R_slice HO207.out; subst eo11) | ((with_reducible refine gate_callee (f := 109) rfl ?_); refine goesL_ (some 18) rfl rfl Tryz.func109 (by kernel_rfl) rfl #[.slice Ao11 y205.length co11] rfl lz ?_; (with_reducible refine (floats_joined.calls _ _ y205 t208 _ ?side1 ?side2 A8.out).mono ?_); (case side1 => repeat (first | exact (Kd.R_reads' HO207.out).2.2 | (with_reducible refine Kd.C_alloc ?_ _) | (with_reducible refine Kd.C_drewN ?_ _) | (with_reducible refine Kd.C_drew ?_))); (case side2 => exact (Kd.R_reads' HO207.out).2.1); rintro e w12 ⟨rfl, hb⟩; refine ⟨_, rfl, ?_⟩; have n0_ := Aside0.mk (Kd.R_below (by (with_reducible repeat (first | apply Kd.R_alloc | apply Kd.R_drewN | apply Kd.R_drew)); exact HO207.out) hb); have n1_ := Aside0.mk (blk_below (g := gb204) (o := .cells #[.int .u64 a0_0, .int .i64 a0_1, .int .u64 a0_2, .int .i64 a0_3, .int .i64 a0_4, .bool true, .int .i32 a0_6] 74 (0, 0)) bk hb); have n2_ := Aside0.mk (below_step bz hb); clear HO207; clear BK204; clear HB; have HO207 := n0_; have BK204 := n1_; have HB := n2_; clear n0_ n1_ n2_; (try clear hb); (try clear hb2); (try clear hk); (try clear hi)))
   go_ret
   exact ⟨ez, bz⟩
  ·replace c7 := Bool.eq_false_iff.mpr c7
   subst c7
   replace H := hF H
   obtain rfl := Option.some.inj H
   go_wp2
   go_ret
   exact ⟨ez, bz⟩
 ·replace H := hN H c4
  have c4b0 : (a2.toList == ([] : List UInt8)) = false := beq_eq_false_iff_ne.mpr c4
  have c4b1 : (a2.toList != ([] : List UInt8)) = true := bne_iff_ne.mpr c4
  have c4b7 : a2.toList.isEmpty = false := by simpa using c4b0
  obtain ⟨y209, hy209⟩ : ∃ y_ : List ByteArray, y_ = (([a1, (⟨#[46]⟩ : ByteArray), a2] : List ByteArray)) := ⟨_, rfl⟩
  replace H : ((floats_joined.f y209).bind fun t212 => (some t212)) = some r := by first | (rw [hy209]; with_reducible exact H) | (have H2_ := (Option.bind_some _ _).symm.trans H; rw [hy209]; with_reducible exact H2_) | (have H2_ := (Option.bind_some _ _).symm.trans H; with_reducible exact H2_) | with_reducible exact H | (rw [hy209]; exact H) | exact H
  have Ny209 := Aside0.mk hy209
  clear hy209
  replace H := bs H
  obtain ⟨t212, A13, H⟩ := H
  obtain rfl := Option.some.inj H
  go_enter Tryz.func107, Tryz.ntmps107
  go_wp2_with (first | ((with_reducible refine gate_dst (N := 3) rfl ?_); refine box_event rfl (N := 3) rfl (cs := #[.int .u64 a0_0, .int .i64 a0_1, .int .u64 a0_2, .int .i64 a0_3, .int .i64 a0_4, .bool a0_5, .int .i32 a0_6]) (t := 74) gz ?_; intro gb204 hg w14 hbox hb; have GW204 := gN bz hg; have GE204 := gN bz hg; have BK204 := Aside0.mk hbox; replace HB := bN bz hb; clear hb hbox hg) | ((with_reducible refine gate_dst (N := 17) rfl ?_); refine Kd.R_lit Kd.string _ 9 ?hg (N := 17) ?hd (xs := ([a1, (⟨#[46]⟩ : ByteArray), a2] : List ByteArray)) (inner := [.string a1, .string (⟨#[46]⟩ : ByteArray), .string a2]) (ok := fun _ => True) (okp := fun _ => True) ?hr ?hp (fun _ hk => hk) trivial (Below.refl _ _) (Nat.le_refl _) (by simp) ?_; (case hd => rfl); (case hg => rfl); (case hr => first | (go_simp; done) | (go_simp; rfl)); (case hp => exact (Reps.one (show Kd.M Kd.string _ _ _ a1 [.string a1] from rfl) (Reps.one (show Kd.M Kd.string _ _ _ (⟨#[46]⟩ : ByteArray) [.string (⟨#[46]⟩ : ByteArray)] from rfl) (Reps.one (show Kd.M Kd.string _ _ _ a2 [.string a2] from rfl) (Reps.none _ _))))); intro v210 w15 ho16 hb hg_ hnew_; clear hg_ hnew_; (first | rw [← Ny209.out] at ho16 | (simp only [Int.reduceToNat] at ho16; rw [← Ny209.out] at ho16)); have n0_ := Aside0.mk (Kd.R_lower ho16 (below_size bz)); have n1_ := Aside0.mk (blk_below (g := gb204) (o := .cells #[.int .u64 a0_0, .int .i64 a0_1, .int .u64 a0_2, .int .i64 a0_3, .int .i64 a0_4, .bool a0_5, .int .i32 a0_6] 74 (0, 0)) bk hb); have n2_ := Aside0.mk (below_step bz hb); clear BK204; clear HB; have HO211 := n0_; have BK204 := n1_; have HB := n2_; clear n0_ n1_ n2_; clear hb ho16; obtain ⟨Ao17, co17, eo17⟩ := Kd.R_slice HO211.out; subst eo17) | ((with_reducible refine gate_callee (f := 109) rfl ?_); refine goesL_ (some 18) rfl rfl Tryz.func109 (by kernel_rfl) rfl #[.slice Ao17 y209.length co17] rfl lz ?_; (with_reducible refine (floats_joined.calls _ _ y209 t212 _ ?side1 ?side2 A13.out).mono ?_); (case side1 => repeat (first | exact (Kd.R_reads' HO211.out).2.2 | (with_reducible refine Kd.C_alloc ?_ _) | (with_reducible refine Kd.C_drewN ?_ _) | (with_reducible refine Kd.C_drew ?_))); (case side2 => exact (Kd.R_reads' HO211.out).2.1); rintro e w18 ⟨rfl, hb⟩; refine ⟨_, rfl, ?_⟩; have n0_ := Aside0.mk (Kd.R_below (by (with_reducible repeat (first | apply Kd.R_alloc | apply Kd.R_drewN | apply Kd.R_drew)); exact HO211.out) hb); have n1_ := Aside0.mk (blk_below (g := gb204) (o := .cells #[.int .u64 a0_0, .int .i64 a0_1, .int .u64 a0_2, .int .i64 a0_3, .int .i64 a0_4, .bool a0_5, .int .i32 a0_6] 74 (0, 0)) bk hb); have n2_ := Aside0.mk (below_step bz hb); clear HO211; clear BK204; clear HB; have HO211 := n0_; have BK204 := n1_; have HB := n2_; clear n0_ n1_ n2_; (try clear hb); (try clear hb2); (try clear hk); (try clear hi)))
  go_ret
  exact ⟨ez, bz⟩
end Go.Proofs.YtecpgdfnamkfdaaGreatDoor.Fn
end
section
namespace Go.Proofs.YtecpgdfnamkfdaaGreatDoor.Fn
open Go.RowKit Go.Proofs.YtecpgdfnamkfdaaGreatDoorW.PrintWords Go.Proofs.YtecpgdfnamkfdaaGreatDoorW.PrintLast Go.Proofs.YtecpgdfnamkfdaaGreatDoorW.PrintMore
attribute [local go_sem] fnW_0 fnW_1 fnW_2 fnW_3 fnW_4 fnW_5 fnW_guard fnW_eql max2_int min2_int max_two min_two
set_option linter.unusedVariables false
set_option linter.unusedSimpArgs false
def floats_float_around.f (a0_0 : Int) (a0_1 : Int) (a0_2 : Int) (a0_3 : Int) (a0_4 : Int) (a0_5 : Bool) (a0_6 : Int) (a1 : ByteArray) (a2 : Int) : Option (ByteArray) := if a2 ≤ 0 then ((strings_Repeat.f (⟨#[48]⟩ : ByteArray) (wrap64 (-a2))).bind fun t265 => (if t265.size + a1.size ≤ 9223372036854775807 then ((floats_float_pointed.f a0_0 a0_1 a0_2 a0_3 a0_4 a0_5 a0_6 (⟨#[48]⟩ : ByteArray) (t265 ++ a1)).bind fun t266 => (some t266)) else (none))) else ((floats_filled.f a1 a2).bind fun t267 => (if 0 ≤ a2 then (if a2 ≤ (t267.size : Int) then ((floats_float_pointed.f a0_0 a0_1 a0_2 a0_3 a0_4 a0_5 a0_6 (t267.extract 0 (a2 : Int).toNat) (t267.extract (a2 : Int).toNat t267.size)).bind fun t268 => (some t268)) else (none)) else (none)))
def floats_float_around.T2 : Bool × List (List Nat × List Nat) := (true, [([], []), ([], []), ([1], [1]), ([2], [2]), ([], []), ([3, 4], [3, 4]), ([0, 5, 3], [0, 5]), ([6, 6, 0, 1, 2, 3, 4, 5, 6], [6])])
def floats_float_around.B2 : List Nat := [0, 0, 2, 6, 0, 30, 63, 127]
theorem floats_float_around.tab2 : rtab .any (opsOf Tryz.f108 2) = floats_float_around.T2 := by kernel_rfl
theorem floats_float_around.bits2 : waitsOk floats_float_around.T2.2 floats_float_around.B2 = true := by kernel_rfl
def floats_float_around.T4 : Bool × List (List Nat × List Nat) := (true, [([], []), ([], []), ([], []), ([1, 2], [1, 2]), ([], []), ([], []), ([4, 5], [4, 5]), ([0, 3, 6], [0, 3, 6]), ([7, 7, 0, 1, 2, 3, 4, 5, 6, 7], [7])])
def floats_float_around.B4 : List Nat := [0, 0, 0, 6, 0, 0, 48, 127, 255]
theorem floats_float_around.tab4 : rtab .any (opsOf Tryz.f108 4) = floats_float_around.T4 := by kernel_rfl
theorem floats_float_around.bits4 : waitsOk floats_float_around.T4.2 floats_float_around.B4 = true := by kernel_rfl
set_option maxHeartbeats 8000000 in
set_option maxRecDepth 100000 in
theorem floats_float_around.calls (a0_0 : Int) (a0_1 : Int) (a0_2 : Int) (a0_3 : Int) (a0_4 : Int) (a0_5 : Bool) (a0_6 : Int) (a1 : ByteArray) (a2 : Int) (r : ByteArray) (w : World) (h : floats_float_around.f a0_0 a0_1 a0_2 a0_3 a0_4 a0_5 a0_6 a1 a2 = some r) :
  Calls Tryz.prog 108 #[.agg #[.int .u64 a0_0, .int .i64 a0_1, .int .u64 a0_2, .int .i64 a0_3, .int .i64 a0_4, .bool a0_5, .int .i32 a0_6], .string a1, .int .i64 a2] w fun e w' => e = .returned (.string r) ∧ Below w.heap.size w w' := by
 have hu74 := Tryz.underlying74
 have HB := Aside0.mk (Below.refl w.heap.size w)
 have H : (if a2 ≤ 0 then ((strings_Repeat.f (⟨#[48]⟩ : ByteArray) (wrap64 (-a2))).bind fun t265 => (if t265.size + a1.size ≤ 9223372036854775807 then ((floats_float_pointed.f a0_0 a0_1 a0_2 a0_3 a0_4 a0_5 a0_6 (⟨#[48]⟩ : ByteArray) (t265 ++ a1)).bind fun t266 => (some t266)) else (none))) else ((floats_filled.f a1 a2).bind fun t267 => (if 0 ≤ a2 then (if a2 ≤ (t267.size : Int) then ((floats_float_pointed.f a0_0 a0_1 a0_2 a0_3 a0_4 a0_5 a0_6 (t267.extract 0 (a2 : Int).toNat) (t267.extract (a2 : Int).toNat t267.size)).bind fun t268 => (some t268)) else (none)) else (none)))) = some r := h
 clear h
 go_enter Tryz.func108, Tryz.ntmps108
 go_upto_if 8 with (first | ((with_reducible refine gate_dst (N := 3) rfl ?_); refine box_event rfl (N := 3) rfl (cs := #[.int .u64 a0_0, .int .i64 a0_1, .int .u64 a0_2, .int .i64 a0_3, .int .i64 a0_4, .bool a0_5, .int .i32 a0_6]) (t := 74) gz ?_; intro gb264 hg w4 hbox hb; have GE264 := gN bz hg; have BK264 := Aside0.mk hbox; replace HB := bN bz hb; clear hb hbox hg))
 (try simp only [Act.put, List.setIfInBounds_toArray, List.set_cons_zero, List.set_cons_succ])
 by_cases c5 : a2 ≤ 0
 ·replace H := hE H c5
  have c5b0 := decide_eq_true c5
  clear c5
  try rw [c5b0]
  replace H := bs H
  obtain ⟨t265, A6, H⟩ := H
  by_cases c7 : t265.size + a1.size ≤ 9223372036854775807
  ·replace H := hE H c7
   have c7b0 := eq_true c7
   have c7b1 : decide (t265.size + a1.size ≤ 9223372036854775807) = true := decide_eq_true c7
   try have c7b2 : (9223372036854775807 < t265.size + a1.size) = False := eq_false (Nat.not_lt.2 c7)
   replace H := bs H
   obtain ⟨t266, A8, H⟩ := H
   obtain rfl := Option.some.inj H
   try go_wp2
   replace BK264 := Aside0.mk (blk_drew BK264.out)
   replace HB := Aside0.mk (below_drew1 HB.out)
   refine start_ (n := 8) (S := fun w' => w'.cell? ⟨gb264, 0, none⟩ = some (.int .u64 a0_0) ∧ w'.cell? ⟨gb264, 1, none⟩ = some (.int .i64 a0_1) ∧ w'.cell? ⟨gb264, 2, none⟩ = some (.int .u64 a0_2) ∧ w'.cell? ⟨gb264, 3, none⟩ = some (.int .i64 a0_3) ∧ w'.cell? ⟨gb264, 4, none⟩ = some (.int .i64 a0_4) ∧ w'.cell? ⟨gb264, 5, none⟩ = some (.bool a0_5) ∧ w'.cell? ⟨gb264, 6, none⟩ = some (.int .i32 a0_6)) (ds := []) #[false, false, false, false, false, false, false, false] (by kernel_rfl) rfl rfl ⟨(blk_cell BK264.out 0).trans rfl, (blk_cell BK264.out 1).trans rfl, (blk_cell BK264.out 2).trans rfl, (blk_cell BK264.out 3).trans rfl, (blk_cell BK264.out 4).trans rfl, (blk_cell BK264.out 5).trans rfl, (blk_cell BK264.out 6).trans rfl⟩ (fun hHeld => ?_); refine with_tabW floats_float_around.tab2 floats_float_around.bits2 (fun HT_ HW_ => ?_)
   generalize w4.drew = w9 at BK264 HB hHeld ⊢
   refine pure_ (i := 1) (N := some 10) (v := ?_) (a' := ?_) #[false, true, false, false, false, false, false, false] rfl rfl (any_of HT_.out (by kernel_rfl)) (fun _ _ _ h => h) (Or.inl ⟨by rfl, ?_⟩) ?_ ?_
   rotate_left
   ·intro w'
    go_simp
    with_reducible rfl
   rotate_left
   ·simp only [Act.put, List.setIfInBounds_toArray, List.set_cons_zero, List.set_cons_succ, i64_w, i32_w]
    rfl
   refine pure_ (i := 2) (N := some 11) (v := ?_) (a' := ?_) #[false, true, true, false, false, false, false, false] rfl rfl (any_of HT_.out (by kernel_rfl)) (fun _ _ _ h => h) (Or.inl ⟨by rfl, ?_⟩) ?_ ?_
   rotate_left
   ·intro w'
    go_simp
    with_reducible rfl
   rotate_left
   ·simp only [Act.put, List.setIfInBounds_toArray, List.set_cons_zero, List.set_cons_succ, i64_w, i32_w]
    rfl
   refine pure_ (i := 4) (N := some 13) (v := ?_) (a' := ?_) #[false, true, true, false, true, false, false, false] rfl rfl (any_of HT_.out (by kernel_rfl)) (fun _ _ _ h => h) (Or.inl ⟨by rfl, ?_⟩) ?_ ?_
   rotate_left
   ·intro w'
    go_simp
    with_reducible rfl
   rotate_left
   ·simp only [Act.put, List.setIfInBounds_toArray, List.set_cons_zero, List.set_cons_succ, i64_w, i32_w]
    rfl
   refine take_ (i := 0) (N := some 9) (v := ?_) (a' := ?_) #[true, true, true, false, true, false, false, false] rfl rfl (take_ofW HT_.out HW_.out (by kernel_rfl)) (fun _ _ _ h => h) (Or.inl ⟨by rfl, ?_⟩) hHeld ?_ ?_
   rotate_left
   ·rintro w' ⟨s0, s1, s2, s3, s4, s5, s6⟩
    go_simp
    with_reducible rfl
   rotate_left
   ·simp only [Act.put, List.setIfInBounds_toArray, List.set_cons_zero, List.set_cons_succ, i64_w, i32_w]
    rfl
   refine one_ (i := 3) (N := some 12) #[true, true, true, true, true, false, false, false] rfl rfl (one_of HT_.out (by kernel_rfl)) (by decide) (fun K hK => ?_)
   refine goes_ Tryz.func46 (by kernel_rfl) rfl #[.string (⟨#[48]⟩ : ByteArray), .int .i64 (wrap64 (-a2))] (by rfl) rfl rfl lz ?_
   with_reducible refine (strings_Repeat.calls (⟨#[48]⟩ : ByteArray) (wrap64 (-a2)) t265 _ A6.out).mono ?_
   rintro e w10 ⟨rfl, hb⟩
   refine ⟨_, rfl, ?_⟩
   replace BK264 := Aside0.mk (blk_below (g := gb264) (o := .cells #[.int .u64 a0_0, .int .i64 a0_1, .int .u64 a0_2, .int .i64 a0_3, .int .i64 a0_4, .bool a0_5, .int .i32 a0_6] 74 (0, 0)) bk hb)
   replace HB := Aside0.mk (below_step bz hb)
   (try clear hb)
   (try clear hb2)
   (try clear hk)
   (try clear hi)
   refine hK.out _ _ ⟨(blk_cell BK264.out 0).trans rfl, (blk_cell BK264.out 1).trans rfl, (blk_cell BK264.out 2).trans rfl, (blk_cell BK264.out 3).trans rfl, (blk_cell BK264.out 4).trans rfl, (blk_cell BK264.out 5).trans rfl, (blk_cell BK264.out 6).trans rfl⟩ (fun hHeld => ?_)
   clear hK K
   refine norm_ (a' := ?_) ?_ ?_
   rotate_left
   ·show Act.put _ (some 12) _ = _
    simp only [Act.put, List.setIfInBounds_toArray, List.set_cons_zero, List.set_cons_succ, i64_w, i32_w]
    rfl
   refine pure_ (i := 5) (N := some 14) (v := ?_) (a' := ?_) #[true, true, true, true, true, true, false, false] rfl rfl (any_of HT_.out (by kernel_rfl)) (fun _ _ _ h => h) (Or.inl ⟨by rfl, ?_⟩) ?_ ?_
   rotate_left
   ·intro w'
    go_simp
    with_reducible rfl
   rotate_left
   ·simp only [Act.put, List.setIfInBounds_toArray, List.set_cons_zero, List.set_cons_succ, i64_w, i32_w]
    rfl
   refine one_ (i := 6) (N := some 15) #[true, true, true, true, true, true, true, false] rfl rfl (one_of HT_.out (by kernel_rfl)) (by decide) (fun K hK => ?_)
   refine goes_ Tryz.func107 (by kernel_rfl) rfl #[.agg #[.int .u64 a0_0, .int .i64 a0_1, .int .u64 a0_2, .int .i64 a0_3, .int .i64 a0_4, .bool a0_5, .int .i32 a0_6], .string (⟨#[48]⟩ : ByteArray), .string (t265 ++ a1)] (by rfl) rfl rfl lz ?_
   with_reducible refine (floats_float_pointed.calls a0_0 a0_1 a0_2 a0_3 a0_4 a0_5 a0_6 (⟨#[48]⟩ : ByteArray) (t265 ++ a1) t266 _ A8.out).mono ?_
   rintro e w11 ⟨rfl, hb⟩
   refine ⟨_, rfl, ?_⟩
   replace BK264 := Aside0.mk (blk_below (g := gb264) (o := .cells #[.int .u64 a0_0, .int .i64 a0_1, .int .u64 a0_2, .int .i64 a0_3, .int .i64 a0_4, .bool a0_5, .int .i32 a0_6] 74 (0, 0)) bk hb)
   replace HB := Aside0.mk (below_step bz hb)
   (try clear hb)
   (try clear hb2)
   (try clear hk)
   (try clear hi)
   refine hK.out _ _ ⟨(blk_cell BK264.out 0).trans rfl, (blk_cell BK264.out 1).trans rfl, (blk_cell BK264.out 2).trans rfl, (blk_cell BK264.out 3).trans rfl, (blk_cell BK264.out 4).trans rfl, (blk_cell BK264.out 5).trans rfl, (blk_cell BK264.out 6).trans rfl⟩ (fun hHeld => ?_)
   clear hK K
   refine norm_ (a' := ?_) ?_ ?_
   rotate_left
   ·show Act.put _ (some 15) _ = _
    simp only [Act.put, List.setIfInBounds_toArray, List.set_cons_zero, List.set_cons_succ, i64_w, i32_w]
    rfl
   refine pure_ (i := 7) (N := some 6) (v := ?_) (a' := ?_) #[true, true, true, true, true, true, true, true] rfl rfl (any_of HT_.out (by kernel_rfl)) (fun _ _ _ h => h) (Or.inl ⟨by rfl, ?_⟩) ?_ ?_
   rotate_left
   ·intro w'
    go_simp
    with_reducible rfl
   rotate_left
   ·simp only [Act.put, List.setIfInBounds_toArray, List.set_cons_zero, List.set_cons_succ, i64_w, i32_w]
    rfl
   refine done_ (done_of HT_.out (by kernel_rfl)) ?_
   try go_wp2
   go_ret
   exact ⟨ez, bz⟩
  ·replace H := hN H c7
   exact absurd H (by simp)
 ·replace H := hN H c5
  have c5b0 := decide_eq_false c5
  clear c5
  try rw [c5b0]
  replace H := bs H
  obtain ⟨t267, A12, H⟩ := H
  by_cases c13 : 0 ≤ a2
  ·replace H := hE H c13
   have c13b0 := eq_true c13
   have c13b1 : decide (0 ≤ a2) = true := decide_eq_true c13
   clear c13
   by_cases c14 : a2 ≤ (t267.size : Int)
   ·replace H := hE H c14
    have c14b0 := eq_true c14
    have c14b1 : decide (a2 ≤ (t267.size : Int)) = true := decide_eq_true c14
    clear c14
    have c15b0 := eq_true (of_decide_eq_true (by first | (with_reducible assumption) | assumption) : 0 ≤ a2)
    have c16b0 := eq_true (of_decide_eq_true (by first | (with_reducible assumption) | assumption) : a2 ≤ (t267.size : Int))
    replace H := bs H
    obtain ⟨t268, A17, H⟩ := H
    obtain rfl := Option.some.inj H
    try go_wp2_with (first | ((with_reducible refine gate_callee (f := 105) rfl ?_); refine goesL_ (some 18) rfl rfl Tryz.func105 (by kernel_rfl) rfl #[.string a1, .int .i64 a2] rfl lz ?_; (with_reducible refine (floats_filled.calls a1 a2 t267 _ A12.out).mono ?_); rintro e w18 ⟨rfl, hb⟩; refine ⟨_, rfl, ?_⟩; replace BK264 := kN (g := gb264) (cs := #[.int .u64 a0_0, .int .i64 a0_1, .int .u64 a0_2, .int .i64 a0_3, .int .i64 a0_4, .bool a0_5, .int .i32 a0_6]) hb bk; replace HB := bN bz hb; (try clear hb); (try clear hb2); (try clear hk); (try clear hi)))
    replace BK264 := Aside0.mk (blk_drew BK264.out)
    replace HB := Aside0.mk (below_drew1 HB.out)
    refine start_ (n := 9) (S := fun w' => w'.cell? ⟨gb264, 0, none⟩ = some (.int .u64 a0_0) ∧ w'.cell? ⟨gb264, 1, none⟩ = some (.int .i64 a0_1) ∧ w'.cell? ⟨gb264, 2, none⟩ = some (.int .u64 a0_2) ∧ w'.cell? ⟨gb264, 3, none⟩ = some (.int .i64 a0_3) ∧ w'.cell? ⟨gb264, 4, none⟩ = some (.int .i64 a0_4) ∧ w'.cell? ⟨gb264, 5, none⟩ = some (.bool a0_5) ∧ w'.cell? ⟨gb264, 6, none⟩ = some (.int .i32 a0_6)) (ds := []) #[false, false, false, false, false, false, false, false, false] (by kernel_rfl) rfl rfl ⟨(blk_cell BK264.out 0).trans rfl, (blk_cell BK264.out 1).trans rfl, (blk_cell BK264.out 2).trans rfl, (blk_cell BK264.out 3).trans rfl, (blk_cell BK264.out 4).trans rfl, (blk_cell BK264.out 5).trans rfl, (blk_cell BK264.out 6).trans rfl⟩ (fun hHeld => ?_); refine with_tabW floats_float_around.tab4 floats_float_around.bits4 (fun HT_ HW_ => ?_)
    generalize w18.drew = w19 at BK264 HB hHeld ⊢
    refine pure_ (i := 1) (N := some 20) (v := ?_) (a' := ?_) #[false, true, false, false, false, false, false, false, false] rfl rfl (any_of HT_.out (by kernel_rfl)) (fun _ _ _ h => h) (Or.inl ⟨by rfl, ?_⟩) ?_ ?_
    rotate_left
    ·intro w'
     go_simp
     with_reducible rfl
    rotate_left
    ·simp only [Act.put, List.setIfInBounds_toArray, List.set_cons_zero, List.set_cons_succ, i64_w, i32_w]
     rfl
    refine pure_ (i := 2) (N := some 21) (v := ?_) (a' := ?_) #[false, true, true, false, false, false, false, false, false] rfl rfl (any_of HT_.out (by kernel_rfl)) (fun _ _ _ h => h) (Or.inl ⟨by rfl, ?_⟩) ?_ ?_
    rotate_left
    ·intro w'
     go_simp
     with_reducible rfl
    rotate_left
    ·simp only [Act.put, List.setIfInBounds_toArray, List.set_cons_zero, List.set_cons_succ, i64_w, i32_w]
     rfl
    refine pure_ (i := 3) (N := some 22) (v := ?_) (a' := ?_) #[false, true, true, true, false, false, false, false, false] rfl rfl (any_of HT_.out (by kernel_rfl)) (fun _ _ _ h => h) (Or.inl ⟨by rfl, ?_⟩) ?_ ?_
    rotate_left
    ·intro w'
     go_simp
     with_reducible rfl
    rotate_left
    ·simp only [Act.put, List.setIfInBounds_toArray, List.set_cons_zero, List.set_cons_succ, i64_w, i32_w]
     rfl
    refine pure_ (i := 4) (N := some 23) (v := ?_) (a' := ?_) #[false, true, true, true, true, false, false, false, false] rfl rfl (any_of HT_.out (by kernel_rfl)) (fun _ _ _ h => h) (Or.inl ⟨by rfl, ?_⟩) ?_ ?_
    rotate_left
    ·intro w'
     go_simp
     with_reducible rfl
    rotate_left
    ·simp only [Act.put, List.setIfInBounds_toArray, List.set_cons_zero, List.set_cons_succ, i64_w, i32_w]
     rfl
    refine pure_ (i := 5) (N := some 24) (v := ?_) (a' := ?_) #[false, true, true, true, true, true, false, false, false] rfl rfl (any_of HT_.out (by kernel_rfl)) (fun _ _ _ h => h) (Or.inl ⟨by rfl, ?_⟩) ?_ ?_
    rotate_left
    ·intro w'
     go_simp
     with_reducible rfl
    rotate_left
    ·simp only [Act.put, List.setIfInBounds_toArray, List.set_cons_zero, List.set_cons_succ, i64_w, i32_w]
     rfl
    refine pure_ (i := 6) (N := some 25) (v := ?_) (a' := ?_) #[false, true, true, true, true, true, true, false, false] rfl rfl (any_of HT_.out (by kernel_rfl)) (fun _ _ _ h => h) (Or.inl ⟨by rfl, ?_⟩) ?_ ?_
    rotate_left
    ·intro w'
     go_simp
     with_reducible rfl
    rotate_left
    ·simp only [Act.put, List.setIfInBounds_toArray, List.set_cons_zero, List.set_cons_succ, i64_w, i32_w]
     rfl
    refine take_ (i := 0) (N := some 19) (v := ?_) (a' := ?_) #[true, true, true, true, true, true, true, false, false] rfl rfl (take_ofW HT_.out HW_.out (by kernel_rfl)) (fun _ _ _ h => h) (Or.inl ⟨by rfl, ?_⟩) hHeld ?_ ?_
    rotate_left
    ·rintro w' ⟨s0, s1, s2, s3, s4, s5, s6⟩
     go_simp
     with_reducible rfl
    rotate_left
    ·simp only [Act.put, List.setIfInBounds_toArray, List.set_cons_zero, List.set_cons_succ, i64_w, i32_w]
     rfl
    refine one_ (i := 7) (N := some 26) #[true, true, true, true, true, true, true, true, false] rfl rfl (one_of HT_.out (by kernel_rfl)) (by decide) (fun K hK => ?_)
    refine goes_ Tryz.func107 (by kernel_rfl) rfl #[.agg #[.int .u64 a0_0, .int .i64 a0_1, .int .u64 a0_2, .int .i64 a0_3, .int .i64 a0_4, .bool a0_5, .int .i32 a0_6], .string (t267.extract 0 (a2 : Int).toNat), .string (t267.extract (a2 : Int).toNat t267.size)] (by rfl) rfl rfl lz ?_
    with_reducible refine (floats_float_pointed.calls a0_0 a0_1 a0_2 a0_3 a0_4 a0_5 a0_6 (t267.extract 0 (a2 : Int).toNat) (t267.extract (a2 : Int).toNat t267.size) t268 _ A17.out).mono ?_
    rintro e w20 ⟨rfl, hb⟩
    refine ⟨_, rfl, ?_⟩
    replace BK264 := Aside0.mk (blk_below (g := gb264) (o := .cells #[.int .u64 a0_0, .int .i64 a0_1, .int .u64 a0_2, .int .i64 a0_3, .int .i64 a0_4, .bool a0_5, .int .i32 a0_6] 74 (0, 0)) bk hb)
    replace HB := Aside0.mk (below_step bz hb)
    (try clear hb)
    (try clear hb2)
    (try clear hk)
    (try clear hi)
    refine hK.out _ _ ⟨(blk_cell BK264.out 0).trans rfl, (blk_cell BK264.out 1).trans rfl, (blk_cell BK264.out 2).trans rfl, (blk_cell BK264.out 3).trans rfl, (blk_cell BK264.out 4).trans rfl, (blk_cell BK264.out 5).trans rfl, (blk_cell BK264.out 6).trans rfl⟩ (fun hHeld => ?_)
    clear hK K
    refine norm_ (a' := ?_) ?_ ?_
    rotate_left
    ·show Act.put _ (some 26) _ = _
     simp only [Act.put, List.setIfInBounds_toArray, List.set_cons_zero, List.set_cons_succ, i64_w, i32_w]
     rfl
    refine pure_ (i := 8) (N := some 6) (v := ?_) (a' := ?_) #[true, true, true, true, true, true, true, true, true] rfl rfl (any_of HT_.out (by kernel_rfl)) (fun _ _ _ h => h) (Or.inl ⟨by rfl, ?_⟩) ?_ ?_
    rotate_left
    ·intro w'
     go_simp
     with_reducible rfl
    rotate_left
    ·simp only [Act.put, List.setIfInBounds_toArray, List.set_cons_zero, List.set_cons_succ, i64_w, i32_w]
     rfl
    refine done_ (done_of HT_.out (by kernel_rfl)) ?_
    try go_wp2
    go_ret
    exact ⟨ez, bz⟩
   ·replace H := hN H c14
    exact absurd H (by simp)
  ·replace H := hN H c13
   exact absurd H (by simp)
end Go.Proofs.YtecpgdfnamkfdaaGreatDoor.Fn
end
section
namespace Go.Proofs.YtecpgdfnamkfdaaGreatDoor.Fn
open Go.RowKit Go.Proofs.YtecpgdfnamkfdaaGreatDoorW.PrintWords Go.Proofs.YtecpgdfnamkfdaaGreatDoorW.PrintLast Go.Proofs.YtecpgdfnamkfdaaGreatDoorW.PrintMore
set_option linter.unusedVariables false
set_option linter.unusedSimpArgs false
def dgF (sg : ByteArray) (b : Nat) : Nat → Nat → List Int → List Int
  | 0, _, l => l
  | k + 1, m, l => if m / b = 0 then bt sg ((m % b : Nat) : Int) :: l else dgF sg b k (m / b) (bt sg ((m % b : Nat) : Int) :: l)
def ints_digits.f (n b : Int) (sg : ByteArray) : Option ByteArray :=
  if 0 ≤ n ∧ n ≤ 18446744073709551615 ∧ 2 ≤ b ∧ b ≤ (sg.size : Int) ∧ sg.size ≤ 1000 then some (strOfNums (dgF sg b.toNat 64 n.toNat [])) else none
theorem dg_step {sg : ByteArray} {b k m : Nat} {l : List Int} (h : m / b ≠ 0) : dgF sg b (k + 1) m l = dgF sg b k (m / b) (bt sg ((m % b : Nat) : Int) :: l) := by
  rw [dgF, if_neg h]
theorem dg_last {sg : ByteArray} {b k m : Nat} {l : List Int} (h : m / b = 0) : dgF sg b (k + 1) m l = bt sg ((m % b : Nat) : Int) :: l := by
  rw [dgF, if_pos h]
def Out (w : World) (g : Nat) (t : TypeId) (j : Nat) (l : List Int) : Prop := ∃ cur, w.heap[g]? = some (.cells cur t (0, 0)) ∧ cur.size = 64 ∧ cur.toList.drop j = nums .u8 l
theorem Out.cell {w : World} {g : Nat} {t : TypeId} {j : Nat} {l : List Int} (h : Out w g t j l) (i : Nat) (hi : i < 64) : ∃ v, w.cell? ⟨g, i, none⟩ = some v := by
  obtain ⟨cur, hg, hs, _⟩ := h
  refine ⟨cur[i], ?_⟩
  rw [blk_cell hg i]
  exact Array.getElem?_eq_getElem (by omega)
theorem Out.free {w : World} {g : Nat} {t : TypeId} {j : Nat} {l : List Int} (h : Out w g t j l) (i : Nat) : w.frozen? ⟨g, i, none⟩ = false := by
  obtain ⟨cur, hg, _, _⟩ := h
  exact blk_frozen hg i
theorem Out.set {w : World} {g : Nat} {t : TypeId} {j : Nat} {l : List Int} (h : Out w g t (j + 1) l) (hj : j < 64) (x : Int) : Out (w.setCell ⟨g, j, none⟩ (.int .u8 x)) g t j (x :: l) := by
  obtain ⟨cur, hg, hs, hd⟩ := h
  refine ⟨cur.setIfInBounds j (.int .u8 x), ?_, by simpa using hs, ?_⟩
  · have hlt : g < w.heap.size := (Array.getElem?_eq_some_iff.1 hg).1
    have hv : w.heap[g] = .cells cur t (0, 0) := (Array.getElem?_eq_some_iff.1 hg).2
    unfold World.setCell
    rw [Array.getElem?_eq_getElem (by simpa using hlt), Array.getElem_modify]
    simp [hv]
  · have hlen : cur.toList.length = 64 := by rw [Array.length_toList]; exact hs
    rw [Array.toList_setIfInBounds, List.drop_eq_getElem_cons (by rw [List.length_set]; omega), List.getElem_set_self, List.drop_set_of_lt (by omega), hd]
    rfl
theorem Out.text {P : Program} {w : World} {g : Nat} {t e src dst : TypeId} {j : Nat} {l : List Int} (h : Out w g t j l) (hs : P.underlying src = some (.slice e)) (he : P.underlying e = some (.int .u8)) (hd : P.underlying dst = some .string) (n cap : Nat) (hn : n = l.length) :
    (convert src dst (.slice (some ⟨g, j, none⟩) n cap)).run P w = .ok (.string (strOfNums l)) w := by
  subst hn
  obtain ⟨cur, hg, hsz, hdr⟩ := h
  refine run_convert_bytes_arg w src e hs he g j l.length cap l rfl (fun i hi => ?_) dst hd
  rw [blk_cell hg (j + i)]
  have h2 : (cur.toList.drop j)[i]? = (nums .u8 l)[i]? := by rw [hdr]
  rw [List.getElem?_drop, Array.getElem?_toList] at h2
  rw [h2]
  simp [nums, List.getElem?_eq_getElem hi, List.getD_eq_getElem?_getD]
theorem below_setCell_of {w wr : World} (h : Below w.heap.size w wr) (c : Int) (j : Nat) : Below w.heap.size w (wr.setCell ⟨w.heap.size, j, none⟩ (.int .u8 c)) := h.setCell (by simp) _
theorem slice64 (W : World) (g j : Nat) (hj : j < 64) : (Instr.sliceAt 181 (.pointer (some ⟨g, 0, none⟩)) (some (.int .i64 (j : Int))) none none).run Tryz.prog W = .ok (.slice (some ⟨g, j, none⟩) (64 - j) (64 - j)) W := by
  have hu := run_underlying (P := Tryz.prog) Tryz.underlying181
  have hb : (Instr.sliceBounds false 64 64 (some (.int .i64 (j : Int))) none none).run Tryz.prog W = .ok (j, 64, 64) W := by
    simp [Instr.sliceBounds, run_sliceBound, (by omega : (j : Int) ≤ 64)]
  have hz : (sizeOf 5).run Tryz.prog W = .ok 1 W := by kernel_rfl
  simp only [Instr.sliceAt, Instr.sureAddr, Sem.run_bind, hu, Result.andThen]
  simp [add_plain, hz]
  rw [hb]
  simp
  omega
set_option maxHeartbeats 4000000 in
set_option maxRecDepth 100000 in
theorem ints_digits.calls (a0 a1 : Int) (a2 : ByteArray) (r : ByteArray) (w : World) (h : ints_digits.f a0 a1 a2 = some r) :
    Calls Tryz.prog 145 #[.int .u64 a0, .int .u64 a1, .string a2] w fun e w' => e = .returned (.string r) ∧ Below w.heap.size w w' := by
  unfold ints_digits.f at h
  split at h
  case isFalse => cases h
  rename_i hc
  obtain ⟨h0, h1, h2, h3, h4⟩ := hc
  obtain ⟨N, rfl⟩ : ∃ N : Nat, a0 = N := ⟨a0.toNat, by omega⟩
  obtain ⟨b, rfl⟩ : ∃ b : Nat, a1 = b := ⟨a1.toNat, by omega⟩
  rw [Int.toNat_natCast, Int.toNat_natCast] at h
  have hr := Option.some.inj h
  clear h
  have HR := Aside0.mk hr
  clear hr
  have hP : N < b ^ 64 := Nat.lt_of_lt_of_le (show N < 2 ^ 64 by omega) (Nat.pow_le_pow_left (by omega) 64)
  have HP := Aside0.mk hP
  clear hP
  go_enter Tryz.func145, Tryz.ntmps145
  go_wp2
  go_loopw [0, 8] (fun n i wr => ∃ (j m : Nat) (l : List Int), n = .int .u64 m ∧ i = .int .i64 ((j : Int) + 1) ∧ j < 64 ∧ m ≤ 18446744073709551615 ∧ Aside0 (m < b ^ (j + 1)) ∧ Aside0 (dgF a2 b (j + 1) m l = dgF a2 b 64 N []) ∧ Aside0 (l.length + j + 1 = 64) ∧ Aside0 (Out wr w.heap.size 181 (j + 1) l) ∧ Aside0 (Below w.heap.size w wr)) (fun _ i _ => (intOf i).toNat)
  case atStart => exact ⟨63, N, [], rfl, rfl, by omega, by omega, HP, ⟨rfl⟩, ⟨rfl⟩, ⟨_, heap_alloc_new w _, by first | rfl | simp, by first | rfl | simp⟩, ⟨(Below.refl _ _).alloc (Nat.le_refl _) _⟩⟩
  case round =>
    obtain ⟨j, m, l, rfl, rfl, hj, hm, HM, HD, HL, HO, HB⟩ := hrel
    obtain ⟨v0, hc0⟩ := HO.out.cell j hj
    have hf0 := HO.out.free j
    have hb2 : (2 : Int) ≤ (b : Int) := h2
    have hmod : (m : Int) % (b : Int) < (a2.size : Int) := Int.lt_of_lt_of_le (Int.emod_lt_of_pos _ (by omega)) h3
    have hmod0 : 0 ≤ (m : Int) % (b : Int) := Int.emod_nonneg _ (by omega)
    have hbt := bt_at a2 ((m : Int) % (b : Int))
    have hcm : ((m % b : Nat) : Int) = (m : Int) % (b : Int) := by simp
    have hqm : ((m / b : Nat) : Int) = (m : Int) / (b : Int) := by simp
    have hq64 : IntKind.u64.wrap ((m : Int) / (b : Int)) = ((m / b : Nat) : Int) := by
      have hle : m / b ≤ m := Nat.div_le_self _ _
      rw [← hqm]
      clear hqm hcm hbt hmod hmod0
      generalize m / b = q at hle ⊢
      exact IntWalk.u64_in _ ⟨by omega, by omega⟩
    have HS := @dg_step a2 b j m l
    have HE := @dg_last a2 b j m l
    rw [hcm] at HS HE
    have HM2 : m / b < b ^ j := Nat.div_lt_of_lt_mul (by have := HM.out; rw [Nat.pow_succ, Nat.mul_comm] at this; exact this)
    have HQ := Aside0.mk (Nat.div_le_self m b)
    generalize bt a2 ((m : Int) % (b : Int)) = c at hbt HS HE
    generalize m / b = q at hq64 HS HE HM2 HQ
    have hout := Aside0.mk (HO.out.set hj c)
    have hsl := fun W => slice64 W w.heap.size j hj
    have hcv := hout.out.text (src := 51) (dst := 9) Tryz.underlying51 Tryz.underlying5 Tryz.underlying9 (64 - j) (64 - j) (by have := HL.out; simp; omega)
    have HSA := Aside0.mk HS
    have HEA := Aside0.mk HE
    have HMA := Aside0.mk HM2
    clear h0 h1 h3 h4 hcm hqm HS HE HM2
    have HBs := Aside0.mk (below_setCell_of HB.out c j)
    go_wp2
    · go_ret
      have hq0 : q = 0 := by
        have hh : ((q : Int) == 0) = true := by assumption
        have := beq_iff_eq.mp hh
        omega
      exact ⟨by show Ending.returned (.string (strOfNums (c :: l))) = .returned (.string r); rw [← HR.out, ← HD.out, HEA.out hq0], HBs.out⟩
    · have hq0 : q ≠ 0 := by
        have hh : ((q : Int) == 0) = false := by assumption
        have := beq_eq_false_iff_ne.mp hh
        omega
      have hj0 : j ≠ 0 := by
        intro e
        have := HMA.out
        rw [e, Nat.pow_zero] at this
        omega
      obtain ⟨i, rfl⟩ : ∃ i, j = i + 1 := ⟨j - 1, by omega⟩
      go_roundw
      case rel => exact ⟨i, q, c :: l, by go_num, by go_num, by omega, by have := HQ.out; omega, HMA, ⟨by rw [← HD.out, HSA.out hq0]⟩, ⟨by have := HL.out; simp; omega⟩, hout, HBs⟩
      case measure => simp [intOf]; omega
end Go.Proofs.YtecpgdfnamkfdaaGreatDoor.Fn
end
section
namespace Go.Proofs.YtecpgdfnamkfdaaGreatDoor.Fn
open Go.RowKit Go.Proofs.YtecpgdfnamkfdaaGreatDoorW.PrintWords Go.Proofs.YtecpgdfnamkfdaaGreatDoorW.PrintLast Go.Proofs.YtecpgdfnamkfdaaGreatDoorW.PrintMore
attribute [local go_sem] fnW_0 fnW_1 fnW_2 fnW_3 fnW_4 fnW_5 fnW_guard fnW_eql max2_int min2_int max_two min_two
set_option linter.unusedVariables false
set_option linter.unusedSimpArgs false
def ints_Digits.f (a0 : Int) (a1 : Int) : Option (ByteArray) := if a1 = 2 then ((ints_digits.f a0 (IntKind.u64.wrap (a1)) (⟨#[48, 49, 50, 51, 52, 53, 54, 55, 56, 57, 97, 98, 99, 100, 101, 102]⟩ : ByteArray)).bind fun t216 => (some t216)) else (if a1 = 8 then ((ints_digits.f a0 (IntKind.u64.wrap (a1)) (⟨#[48, 49, 50, 51, 52, 53, 54, 55, 56, 57, 97, 98, 99, 100, 101, 102]⟩ : ByteArray)).bind fun t217 => (some t217)) else (if a1 = 10 then ((ints_digits.f a0 (IntKind.u64.wrap (a1)) (⟨#[48, 49, 50, 51, 52, 53, 54, 55, 56, 57, 97, 98, 99, 100, 101, 102]⟩ : ByteArray)).bind fun t218 => (some t218)) else (if a1 = 16 then ((ints_digits.f a0 (IntKind.u64.wrap (a1)) (⟨#[48, 49, 50, 51, 52, 53, 54, 55, 56, 57, 97, 98, 99, 100, 101, 102]⟩ : ByteArray)).bind fun t219 => (some t219)) else (some (⟨#[]⟩ : ByteArray)))))
set_option maxHeartbeats 8000000 in
set_option maxRecDepth 100000 in
theorem ints_Digits.calls (a0 : Int) (a1 : Int) (r : ByteArray) (w : World) (h : ints_Digits.f a0 a1 = some r) :
  Calls Tryz.prog 110 #[.int .u64 a0, .int .i64 a1] w fun e w' => e = .returned (.string r) ∧ Below w.heap.size w w' := by
 have HB := Aside0.mk (Below.refl w.heap.size w)
 have H : (if a1 = 2 then ((ints_digits.f a0 (IntKind.u64.wrap (a1)) (⟨#[48, 49, 50, 51, 52, 53, 54, 55, 56, 57, 97, 98, 99, 100, 101, 102]⟩ : ByteArray)).bind fun t216 => (some t216)) else (if a1 = 8 then ((ints_digits.f a0 (IntKind.u64.wrap (a1)) (⟨#[48, 49, 50, 51, 52, 53, 54, 55, 56, 57, 97, 98, 99, 100, 101, 102]⟩ : ByteArray)).bind fun t217 => (some t217)) else (if a1 = 10 then ((ints_digits.f a0 (IntKind.u64.wrap (a1)) (⟨#[48, 49, 50, 51, 52, 53, 54, 55, 56, 57, 97, 98, 99, 100, 101, 102]⟩ : ByteArray)).bind fun t218 => (some t218)) else (if a1 = 16 then ((ints_digits.f a0 (IntKind.u64.wrap (a1)) (⟨#[48, 49, 50, 51, 52, 53, 54, 55, 56, 57, 97, 98, 99, 100, 101, 102]⟩ : ByteArray)).bind fun t219 => (some t219)) else (some (⟨#[]⟩ : ByteArray)))))) = some r := h
 clear h
 by_cases c3 : a1 = 2
 ·replace H := hE H c3
  obtain ⟨c3b0, c3b1⟩ := eT c3
  clear c3
  replace H := bs H
  obtain ⟨t216, A4, H⟩ := H
  obtain rfl := Option.some.inj H
  go_enter Tryz.func110, Tryz.ntmps110
  go_wp2_with (first | ((with_reducible refine gate_callee (f := 145) rfl ?_); refine goesL_ (some 14) rfl rfl Tryz.func145 (by kernel_rfl) rfl #[.int .u64 a0, .int .u64 (IntKind.u64.wrap (a1)), .string (⟨#[48, 49, 50, 51, 52, 53, 54, 55, 56, 57, 97, 98, 99, 100, 101, 102]⟩ : ByteArray)] rfl lz ?_; (with_reducible refine (ints_digits.calls a0 (IntKind.u64.wrap (a1)) (⟨#[48, 49, 50, 51, 52, 53, 54, 55, 56, 57, 97, 98, 99, 100, 101, 102]⟩ : ByteArray) t216 _ A4.out).mono ?_); rintro e w5 ⟨rfl, hb⟩; refine ⟨_, rfl, ?_⟩; replace HB := bN bz hb; (try clear hb); (try clear hb2); (try clear hk); (try clear hi)))
  go_ret
  exact ⟨ez, bz⟩
 ·replace H := hN H c3
  obtain ⟨c3b0, c3b1⟩ := eF c3
  by_cases c6 : a1 = 8
  ·replace H := hE H c6
   obtain ⟨c6b0, c6b1⟩ := eT c6
   clear c6
   replace H := bs H
   obtain ⟨t217, A7, H⟩ := H
   obtain rfl := Option.some.inj H
   go_enter Tryz.func110, Tryz.ntmps110
   go_wp2_with (first | ((with_reducible refine gate_callee (f := 145) rfl ?_); refine goesL_ (some 14) rfl rfl Tryz.func145 (by kernel_rfl) rfl #[.int .u64 a0, .int .u64 (IntKind.u64.wrap (a1)), .string (⟨#[48, 49, 50, 51, 52, 53, 54, 55, 56, 57, 97, 98, 99, 100, 101, 102]⟩ : ByteArray)] rfl lz ?_; (with_reducible refine (ints_digits.calls a0 (IntKind.u64.wrap (a1)) (⟨#[48, 49, 50, 51, 52, 53, 54, 55, 56, 57, 97, 98, 99, 100, 101, 102]⟩ : ByteArray) t217 _ A7.out).mono ?_); rintro e w8 ⟨rfl, hb⟩; refine ⟨_, rfl, ?_⟩; replace HB := bN bz hb; (try clear hb); (try clear hb2); (try clear hk); (try clear hi)))
   go_ret
   exact ⟨ez, bz⟩
  ·replace H := hN H c6
   obtain ⟨c6b0, c6b1⟩ := eF c6
   by_cases c9 : a1 = 10
   ·replace H := hE H c9
    obtain ⟨c9b0, c9b1⟩ := eT c9
    clear c9
    replace H := bs H
    obtain ⟨t218, A10, H⟩ := H
    obtain rfl := Option.some.inj H
    go_enter Tryz.func110, Tryz.ntmps110
    go_wp2_with (first | ((with_reducible refine gate_callee (f := 145) rfl ?_); refine goesL_ (some 14) rfl rfl Tryz.func145 (by kernel_rfl) rfl #[.int .u64 a0, .int .u64 (IntKind.u64.wrap (a1)), .string (⟨#[48, 49, 50, 51, 52, 53, 54, 55, 56, 57, 97, 98, 99, 100, 101, 102]⟩ : ByteArray)] rfl lz ?_; (with_reducible refine (ints_digits.calls a0 (IntKind.u64.wrap (a1)) (⟨#[48, 49, 50, 51, 52, 53, 54, 55, 56, 57, 97, 98, 99, 100, 101, 102]⟩ : ByteArray) t218 _ A10.out).mono ?_); rintro e w11 ⟨rfl, hb⟩; refine ⟨_, rfl, ?_⟩; replace HB := bN bz hb; (try clear hb); (try clear hb2); (try clear hk); (try clear hi)))
    go_ret
    exact ⟨ez, bz⟩
   ·replace H := hN H c9
    obtain ⟨c9b0, c9b1⟩ := eF c9
    by_cases c12 : a1 = 16
    ·replace H := hE H c12
     obtain ⟨c12b0, c12b1⟩ := eT c12
     clear c12
     replace H := bs H
     obtain ⟨t219, A13, H⟩ := H
     obtain rfl := Option.some.inj H
     go_enter Tryz.func110, Tryz.ntmps110
     go_wp2_with (first | ((with_reducible refine gate_callee (f := 145) rfl ?_); refine goesL_ (some 14) rfl rfl Tryz.func145 (by kernel_rfl) rfl #[.int .u64 a0, .int .u64 (IntKind.u64.wrap (a1)), .string (⟨#[48, 49, 50, 51, 52, 53, 54, 55, 56, 57, 97, 98, 99, 100, 101, 102]⟩ : ByteArray)] rfl lz ?_; (with_reducible refine (ints_digits.calls a0 (IntKind.u64.wrap (a1)) (⟨#[48, 49, 50, 51, 52, 53, 54, 55, 56, 57, 97, 98, 99, 100, 101, 102]⟩ : ByteArray) t219 _ A13.out).mono ?_); rintro e w14 ⟨rfl, hb⟩; refine ⟨_, rfl, ?_⟩; replace HB := bN bz hb; (try clear hb); (try clear hb2); (try clear hk); (try clear hi)))
     go_ret
     exact ⟨ez, bz⟩
    ·replace H := hN H c12
     obtain ⟨c12b0, c12b1⟩ := eF c12
     obtain rfl := Option.some.inj H
     go_enter Tryz.func110, Tryz.ntmps110
     go_wp2
     go_ret
     exact ⟨ez, bz⟩
end Go.Proofs.YtecpgdfnamkfdaaGreatDoor.Fn
end
section
namespace Go.Proofs.YtecpgdfnamkfdaaGreatDoor.Fn
open Go.RowKit Go.Proofs.YtecpgdfnamkfdaaGreatDoorW.PrintWords Go.Proofs.YtecpgdfnamkfdaaGreatDoorW.PrintLast Go.Proofs.YtecpgdfnamkfdaaGreatDoorW.PrintMore
attribute [local go_sem] fnW_0 fnW_1 fnW_2 fnW_3 fnW_4 fnW_5 fnW_guard fnW_eql max2_int min2_int max_two min_two
set_option linter.unusedVariables false
set_option linter.unusedSimpArgs false
def floats_power.f (a0 : ByteArray) (a1 : Int) (a2 : Int) : Option (ByteArray) := if a1 < 0 then ((ints_Digits.f (IntKind.u64.wrap (wrap64 (-a1))) 10).bind fun t220 => ((strings_Repeat.f (⟨#[48]⟩ : ByteArray) (mx 0 (wrap64 (a2 - (t220.size : Int))))).bind fun t221 => ((floats_joined.f (([a0, (⟨#[45]⟩ : ByteArray), t221, t220] : List ByteArray))).bind fun t225 => (some t225)))) else ((ints_Digits.f (IntKind.u64.wrap (a1)) 10).bind fun t226 => ((strings_Repeat.f (⟨#[48]⟩ : ByteArray) (mx 0 (wrap64 (a2 - (t226.size : Int))))).bind fun t227 => ((floats_joined.f (([a0, (⟨#[43]⟩ : ByteArray), t227, t226] : List ByteArray))).bind fun t231 => (some t231))))
set_option maxHeartbeats 8000000 in
set_option maxRecDepth 100000 in
theorem floats_power.calls (a0 : ByteArray) (a1 : Int) (a2 : Int) (r : ByteArray) (w : World) (h : floats_power.f a0 a1 a2 = some r) :
  Calls Tryz.prog 111 #[.string a0, .int .i64 a1, .int .i64 a2] w fun e w' => e = .returned (.string r) ∧ Below w.heap.size w w' := by
 have HB := Aside0.mk (Below.refl w.heap.size w)
 have H : (if a1 < 0 then ((ints_Digits.f (IntKind.u64.wrap (wrap64 (-a1))) 10).bind fun t220 => ((strings_Repeat.f (⟨#[48]⟩ : ByteArray) (mx 0 (wrap64 (a2 - (t220.size : Int))))).bind fun t221 => ((floats_joined.f (([a0, (⟨#[45]⟩ : ByteArray), t221, t220] : List ByteArray))).bind fun t225 => (some t225)))) else ((ints_Digits.f (IntKind.u64.wrap (a1)) 10).bind fun t226 => ((strings_Repeat.f (⟨#[48]⟩ : ByteArray) (mx 0 (wrap64 (a2 - (t226.size : Int))))).bind fun t227 => ((floats_joined.f (([a0, (⟨#[43]⟩ : ByteArray), t227, t226] : List ByteArray))).bind fun t231 => (some t231))))) = some r := h
 clear h
 by_cases c4 : a1 < 0
 ·replace H := hE H c4
  have c4b0 := decide_eq_true c4
  clear c4
  replace H := bs H
  obtain ⟨t220, A5, H⟩ := H
  obtain ⟨ji6, hji6⟩ : ∃ j_ : Int, (mx 0 (wrap64 (a2 - (t220.size : Int)))) = j_ := ⟨_, rfl⟩
  (first | rw [hji6] at H | simp only [hji6] at H)
  (try rw [hji6] at A5)
  (try (have hji6l : 0 ≤ ji6 := by (rw [← hji6]; unfold mx; (repeat' split) <;> omega)))
  (try (have hji6m : 0 ≤ ji6 := by omega))
  have hji6_ : (if 0 < (wrap64 (a2 - (t220.size : Int))) then (wrap64 (a2 - (t220.size : Int))) else 0) = ji6 := hji6
  replace H := bs H
  obtain ⟨t221, A7, H⟩ := H
  obtain ⟨y222, hy222⟩ : ∃ y_ : List ByteArray, y_ = (([a0, (⟨#[45]⟩ : ByteArray), t221, t220] : List ByteArray)) := ⟨_, rfl⟩
  replace H : ((floats_joined.f y222).bind fun t225 => (some t225)) = some r := by first | (rw [hy222]; with_reducible exact H) | (have H2_ := (Option.bind_some _ _).symm.trans H; rw [hy222]; with_reducible exact H2_) | (have H2_ := (Option.bind_some _ _).symm.trans H; with_reducible exact H2_) | with_reducible exact H | (rw [hy222]; exact H) | exact H
  have Ny222 := Aside0.mk hy222
  clear hy222
  replace H := bs H
  obtain ⟨t225, A8, H⟩ := H
  obtain rfl := Option.some.inj H
  go_enter Tryz.func111, Tryz.ntmps111
  go_wp2_with (first | ((with_reducible refine gate_callee (f := 110) rfl ?_); refine goesL_ (some 15) rfl rfl Tryz.func110 (by kernel_rfl) rfl #[.int .u64 (IntKind.u64.wrap (wrap64 (-a1))), .int .i64 10] rfl lz ?_; (with_reducible refine (ints_Digits.calls (IntKind.u64.wrap (wrap64 (-a1))) 10 t220 _ A5.out).mono ?_); rintro e w9 ⟨rfl, hb⟩; refine ⟨_, rfl, ?_⟩; replace HB := bN bz hb; (try clear hb); (try clear hb2); (try clear hk); (try clear hi)) | ((with_reducible refine gate_callee (f := 46) rfl ?_); refine goesL_ (some 23) rfl rfl Tryz.func46 (by kernel_rfl) rfl #[.string (⟨#[48]⟩ : ByteArray), .int .i64 ji6] rfl (by (try simp only [List.map_toArray, List.map_cons, List.map_nil]); first | done | (simp only [hji6]; rfl) | rfl | (simp only [List.length_drop, List.length_take]; rfl)) ?_; (with_reducible refine (strings_Repeat.calls (⟨#[48]⟩ : ByteArray) ji6 t221 _ A7.out).mono ?_); rintro e w10 ⟨rfl, hb⟩; refine ⟨_, rfl, ?_⟩; replace HB := bN bz hb; (try clear hb); (try clear hb2); (try clear hk); (try clear hi)) | ((with_reducible refine gate_dst (N := 25) rfl ?_); refine Kd.R_lit Kd.string _ 9 ?hg (N := 25) ?hd (xs := ([a0, (⟨#[45]⟩ : ByteArray), t221, t220] : List ByteArray)) (inner := [.string a0, .string (⟨#[45]⟩ : ByteArray), .string t221, .string t220]) (ok := fun _ => True) (okp := fun _ => True) ?hr ?hp (fun _ hk => hk) trivial (Below.refl _ _) (Nat.le_refl _) (by simp) ?_; (case hd => rfl); (case hg => rfl); (case hr => first | (go_simp; done) | (go_simp; rfl)); (case hp => exact (Reps.one (show Kd.M Kd.string _ _ _ a0 [.string a0] from rfl) (Reps.one (show Kd.M Kd.string _ _ _ (⟨#[45]⟩ : ByteArray) [.string (⟨#[45]⟩ : ByteArray)] from rfl) (Reps.one (show Kd.M Kd.string _ _ _ t221 [.string t221] from rfl) (Reps.one (show Kd.M Kd.string _ _ _ t220 [.string t220] from rfl) (Reps.none _ _)))))); intro v223 w11 ho12 hb hg_ hnew_; clear hg_ hnew_; (first | rw [← Ny222.out] at ho12 | (simp only [Int.reduceToNat] at ho12; rw [← Ny222.out] at ho12)); have n0_ := Aside0.mk (Kd.R_lower ho12 (below_size bz)); have n1_ := Aside0.mk (below_step bz hb); clear HB; have HO224 := n0_; have HB := n1_; clear n0_ n1_; clear hb ho12; obtain ⟨Ao13, co13, eo13⟩ := Kd.R_slice HO224.out; subst eo13) | ((with_reducible refine gate_callee (f := 109) rfl ?_); refine goesL_ (some 26) rfl rfl Tryz.func109 (by kernel_rfl) rfl #[.slice Ao13 y222.length co13] rfl lz ?_; (with_reducible refine (floats_joined.calls _ _ y222 t225 _ ?side1 ?side2 A8.out).mono ?_); (case side1 => repeat (first | exact (Kd.R_reads' HO224.out).2.2 | (with_reducible refine Kd.C_alloc ?_ _) | (with_reducible refine Kd.C_drewN ?_ _) | (with_reducible refine Kd.C_drew ?_))); (case side2 => exact (Kd.R_reads' HO224.out).2.1); rintro e w14 ⟨rfl, hb⟩; refine ⟨_, rfl, ?_⟩; have n0_ := Aside0.mk (Kd.R_below (by (with_reducible repeat (first | apply Kd.R_alloc | apply Kd.R_drewN | apply Kd.R_drew)); exact HO224.out) hb); have n1_ := Aside0.mk (below_step bz hb); clear HO224; clear HB; have HO224 := n0_; have HB := n1_; clear n0_ n1_; (try clear hb); (try clear hb2); (try clear hk); (try clear hi)))
  go_ret
  exact ⟨by first | rfl | (simp [errW_none, errW_some] <;> rfl) | (simp only [← hji6]; first | rfl | (simp [errW_none, errW_some] <;> rfl)) | (simp [*, errW_none, errW_some] <;> rfl), bz⟩
 ·replace H := hN H c4
  have c4b0 := decide_eq_false c4
  clear c4
  replace H := bs H
  obtain ⟨t226, A15, H⟩ := H
  obtain ⟨ji16, hji16⟩ : ∃ j_ : Int, (mx 0 (wrap64 (a2 - (t226.size : Int)))) = j_ := ⟨_, rfl⟩
  (first | rw [hji16] at H | simp only [hji16] at H)
  (try rw [hji16] at A15)
  (try (have hji16l : 0 ≤ ji16 := by (rw [← hji16]; unfold mx; (repeat' split) <;> omega)))
  (try (have hji16m : 0 ≤ ji16 := by omega))
  have hji16_ : (if 0 < (wrap64 (a2 - (t226.size : Int))) then (wrap64 (a2 - (t226.size : Int))) else 0) = ji16 := hji16
  replace H := bs H
  obtain ⟨t227, A17, H⟩ := H
  obtain ⟨y228, hy228⟩ : ∃ y_ : List ByteArray, y_ = (([a0, (⟨#[43]⟩ : ByteArray), t227, t226] : List ByteArray)) := ⟨_, rfl⟩
  replace H : ((floats_joined.f y228).bind fun t231 => (some t231)) = some r := by first | (rw [hy228]; with_reducible exact H) | (have H2_ := (Option.bind_some _ _).symm.trans H; rw [hy228]; with_reducible exact H2_) | (have H2_ := (Option.bind_some _ _).symm.trans H; with_reducible exact H2_) | with_reducible exact H | (rw [hy228]; exact H) | exact H
  have Ny228 := Aside0.mk hy228
  clear hy228
  replace H := bs H
  obtain ⟨t231, A18, H⟩ := H
  obtain rfl := Option.some.inj H
  go_enter Tryz.func111, Tryz.ntmps111
  go_wp2_with (first | ((with_reducible refine gate_callee (f := 110) rfl ?_); refine goesL_ (some 15) rfl rfl Tryz.func110 (by kernel_rfl) rfl #[.int .u64 (IntKind.u64.wrap (a1)), .int .i64 10] rfl lz ?_; (with_reducible refine (ints_Digits.calls (IntKind.u64.wrap (a1)) 10 t226 _ A15.out).mono ?_); rintro e w19 ⟨rfl, hb⟩; refine ⟨_, rfl, ?_⟩; replace HB := bN bz hb; (try clear hb); (try clear hb2); (try clear hk); (try clear hi)) | ((with_reducible refine gate_callee (f := 46) rfl ?_); refine goesL_ (some 23) rfl rfl Tryz.func46 (by kernel_rfl) rfl #[.string (⟨#[48]⟩ : ByteArray), .int .i64 ji16] rfl (by (try simp only [List.map_toArray, List.map_cons, List.map_nil]); first | done | (simp only [hji16]; rfl) | rfl | (simp only [List.length_drop, List.length_take]; rfl)) ?_; (with_reducible refine (strings_Repeat.calls (⟨#[48]⟩ : ByteArray) ji16 t227 _ A17.out).mono ?_); rintro e w20 ⟨rfl, hb⟩; refine ⟨_, rfl, ?_⟩; replace HB := bN bz hb; (try clear hb); (try clear hb2); (try clear hk); (try clear hi)) | ((with_reducible refine gate_dst (N := 25) rfl ?_); refine Kd.R_lit Kd.string _ 9 ?hg (N := 25) ?hd (xs := ([a0, (⟨#[43]⟩ : ByteArray), t227, t226] : List ByteArray)) (inner := [.string a0, .string (⟨#[43]⟩ : ByteArray), .string t227, .string t226]) (ok := fun _ => True) (okp := fun _ => True) ?hr ?hp (fun _ hk => hk) trivial (Below.refl _ _) (Nat.le_refl _) (by simp) ?_; (case hd => rfl); (case hg => rfl); (case hr => first | (go_simp; done) | (go_simp; rfl)); (case hp => exact (Reps.one (show Kd.M Kd.string _ _ _ a0 [.string a0] from rfl) (Reps.one (show Kd.M Kd.string _ _ _ (⟨#[43]⟩ : ByteArray) [.string (⟨#[43]⟩ : ByteArray)] from rfl) (Reps.one (show Kd.M Kd.string _ _ _ t227 [.string t227] from rfl) (Reps.one (show Kd.M Kd.string _ _ _ t226 [.string t226] from rfl) (Reps.none _ _)))))); intro v229 w21 ho22 hb hg_ hnew_; clear hg_ hnew_; (first | rw [← Ny228.out] at ho22 | (simp only [Int.reduceToNat] at ho22; rw [← Ny228.out] at ho22)); have n0_ := Aside0.mk (Kd.R_lower ho22 (below_size bz)); have n1_ := Aside0.mk (below_step bz hb); clear HB; have HO230 := n0_; have HB := n1_; clear n0_ n1_; clear hb ho22; obtain ⟨Ao23, co23, eo23⟩ := Kd.R_slice HO230.out; subst eo23) | ((with_reducible refine gate_callee (f := 109) rfl ?_); refine goesL_ (some 26) rfl rfl Tryz.func109 (by kernel_rfl) rfl #[.slice Ao23 y228.length co23] rfl lz ?_; (with_reducible refine (floats_joined.calls _ _ y228 t231 _ ?side1 ?side2 A18.out).mono ?_); (case side1 => repeat (first | exact (Kd.R_reads' HO230.out).2.2 | (with_reducible refine Kd.C_alloc ?_ _) | (with_reducible refine Kd.C_drewN ?_ _) | (with_reducible refine Kd.C_drew ?_))); (case side2 => exact (Kd.R_reads' HO230.out).2.1); rintro e w24 ⟨rfl, hb⟩; refine ⟨_, rfl, ?_⟩; have n0_ := Aside0.mk (Kd.R_below (by (with_reducible repeat (first | apply Kd.R_alloc | apply Kd.R_drewN | apply Kd.R_drew)); exact HO230.out) hb); have n1_ := Aside0.mk (below_step bz hb); clear HO230; clear HB; have HO230 := n0_; have HB := n1_; clear n0_ n1_; (try clear hb); (try clear hb2); (try clear hk); (try clear hi)))
  go_ret
  exact ⟨by first | rfl | (simp [errW_none, errW_some] <;> rfl) | (simp only [← hji16]; first | rfl | (simp [errW_none, errW_some] <;> rfl)) | (simp [*, errW_none, errW_some] <;> rfl), bz⟩
end Go.Proofs.YtecpgdfnamkfdaaGreatDoor.Fn
end
section
namespace Go.Proofs.YtecpgdfnamkfdaaGreatDoor.Fn
open Go.RowKit Go.Proofs.YtecpgdfnamkfdaaGreatDoorW.PrintWords Go.Proofs.YtecpgdfnamkfdaaGreatDoorW.PrintLast Go.Proofs.YtecpgdfnamkfdaaGreatDoorW.PrintMore
attribute [local go_sem] fnW_0 fnW_1 fnW_2 fnW_3 fnW_4 fnW_5 fnW_guard fnW_eql max2_int min2_int max_two min_two
set_option linter.unusedVariables false
set_option linter.unusedSimpArgs false
def floats_float_scientific.j0 : Nat → ByteArray → Int → ByteArray → Bool → Int → Int → Int → Int → Int → Bool → Int → Option (ByteArray)
 | 0, _, _, _, _, _, _, _, _, _, _, _ => none
 | k + 1, x1, x2, x7, x15, x233000, x233001, x233002, x233003, x233004, x233005, x233006 => if x15 = true then (if 0 ≤ 1 then (if 1 ≤ (x1.size : Int) then ((floats_float_pointed.f x233000 x233001 x233002 x233003 x233004 x233005 x233006 (x1.extract 0 1) (x1.extract 1 x1.size)).bind fun t233 => ((floats_power.f (⟨#[69]⟩ : ByteArray) x2 2).bind fun t234 => ((floats_joined.f (([t233, t234] : List ByteArray))).bind fun t238 => (some t238)))) else (none)) else (none)) else (if 0 ≤ 1 then (if 1 ≤ (x1.size : Int) then ((floats_float_pointed.f x233000 x233001 x233002 x233003 x233004 x233005 x233006 (x1.extract 0 1) (x1.extract 1 x1.size)).bind fun t239 => ((floats_power.f x7 x2 2).bind fun t240 => ((floats_joined.f (([t239, t240] : List ByteArray))).bind fun t244 => (some t244)))) else (none)) else (none))
def floats_float_scientific.f (k : Nat) (a0_0 : Int) (a0_1 : Int) (a0_2 : Int) (a0_3 : Int) (a0_4 : Int) (a0_5 : Bool) (a0_6 : Int) (a1 : ByteArray) (a2 : Int) : Option (ByteArray) := if a0_6 = 69 then (floats_float_scientific.j0 k a1 a2 (⟨#[101]⟩ : ByteArray) true a0_0 a0_1 a0_2 a0_3 a0_4 a0_5 a0_6) else (floats_float_scientific.j0 k a1 a2 (⟨#[101]⟩ : ByteArray) (a0_6 == 71) a0_0 a0_1 a0_2 a0_3 a0_4 a0_5 a0_6)
def floats_float_scientific.T4 : Bool × List (List Nat × List Nat) := (true, [([], []), ([], []), ([1], [1]), ([], []), ([3], [3]), ([0, 2, 4], [0, 2, 4]), ([], []), ([], []), ([6, 7, 5], [6, 7]), ([5, 8], [5, 8]), ([9, 8], [9]), ([10, 10, 0, 1, 2, 3, 4, 5, 6, 7, 8, 9, 10], [10])])
def floats_float_scientific.B4 : List Nat := [0, 0, 2, 0, 8, 31, 0, 0, 255, 511, 1023, 2047]
theorem floats_float_scientific.tab4 : rtab .any (opsOf Tryz.f104 4) = floats_float_scientific.T4 := by kernel_rfl
theorem floats_float_scientific.bits4 : waitsOk floats_float_scientific.T4.2 floats_float_scientific.B4 = true := by kernel_rfl
set_option maxHeartbeats 8000000 in
set_option maxRecDepth 100000 in
theorem floats_float_scientific.calls (k : Nat) (a0_0 : Int) (a0_1 : Int) (a0_2 : Int) (a0_3 : Int) (a0_4 : Int) (a0_5 : Bool) (a0_6 : Int) (a1 : ByteArray) (a2 : Int) (r : ByteArray) (w : World) (h : floats_float_scientific.f k a0_0 a0_1 a0_2 a0_3 a0_4 a0_5 a0_6 a1 a2 = some r) :
  Calls Tryz.prog 104 #[.agg #[.int .u64 a0_0, .int .i64 a0_1, .int .u64 a0_2, .int .i64 a0_3, .int .i64 a0_4, .bool a0_5, .int .i32 a0_6], .string a1, .int .i64 a2] w fun e w' => e = .returned (.string r) ∧ Below w.heap.size w w' := by
 have hu74 := Tryz.underlying74
 have HB := Aside0.mk (Below.refl w.heap.size w)
 have H : (if a0_6 = 69 then (floats_float_scientific.j0 k a1 a2 (⟨#[101]⟩ : ByteArray) true a0_0 a0_1 a0_2 a0_3 a0_4 a0_5 a0_6) else (floats_float_scientific.j0 k a1 a2 (⟨#[101]⟩ : ByteArray) (a0_6 == 71) a0_0 a0_1 a0_2 a0_3 a0_4 a0_5 a0_6)) = some r := h
 clear h
 have HC4 := Aside0.mk H
 clear H
 go_enter Tryz.func104, Tryz.ntmps104
 go_upto_region 2 with (first | ((with_reducible refine gate_dst (N := 3) rfl ?_); refine box_event rfl (N := 3) rfl (cs := #[.int .u64 a0_0, .int .i64 a0_1, .int .u64 a0_2, .int .i64 a0_3, .int .i64 a0_4, .bool a0_5, .int .i32 a0_6]) (t := 74) gz ?_; intro gb232 hg w5 hbox hb; have GE232 := gN bz hg; have BK232 := Aside0.mk hbox; replace HB := bN bz hb; clear hb hbox hg))
 (try simp only [Act.put, List.setIfInBounds_toArray, List.set_cons_zero, List.set_cons_succ])
 go_cut [15] (fun v15 wc => ∃ (kq : Nat) (x15_3 : Bool), v15 = .bool x15_3 ∧ Aside0 (floats_float_scientific.j0 kq a1 a2 (⟨#[101]⟩ : ByteArray) x15_3 a0_0 a0_1 a0_2 a0_3 a0_4 a0_5 a0_6 = some r) ∧ Aside0 (kq ≤ k) ∧ Aside0 (wc.heap[gb232]? = some (.cells #[.int .u64 a0_0, .int .i64 a0_1, .int .u64 a0_2, .int .i64 a0_3, .int .i64 a0_4, .bool a0_5, .int .i32 a0_6] 74 (0, 0))) ∧ Aside0 (Below w.heap.size w wc))
 case first =>
  have H := HC4.out
  clear HC4
  by_cases c6 : a0_6 = 69
  ·replace H := hE H c6
   obtain ⟨c6b0, c6b1⟩ := eT c6
   clear c6
   try first | rw [c6b0] | rw [c6b1]
   have H' := Aside0.mk H
   clear H
   obtain ⟨hcz7_0, hcz7_1, hcz7_2, hcz7_3, hcz7_4, hcz7_5, hcz7_6, hfz7_0, hfz7_1, hfz7_2, hfz7_3, hfz7_4, hfz7_5, hfz7_6⟩ := cz7 (W := w5) BK232
   go_wp2
   go_meet
   case rel => exact ⟨_, (true), rz, H', ⟨by first | omega | exact Nat.le_refl _⟩, ⟨bk⟩, ⟨bz⟩⟩
  ·replace H := hN H c6
   obtain ⟨c6b0, c6b1⟩ := eF c6
   try first | rw [c6b0] | rw [c6b1]
   have H' := Aside0.mk H
   clear H
   obtain ⟨hcz8_0, hcz8_1, hcz8_2, hcz8_3, hcz8_4, hcz8_5, hcz8_6, hfz8_0, hfz8_1, hfz8_2, hfz8_3, hfz8_4, hfz8_5, hfz8_6⟩ := cz7 (W := w5) BK232
   go_wp2
   go_meet
   case rel => exact ⟨_, ((a0_6 == 71)), rz, H', ⟨by first | omega | exact Nat.le_refl _⟩, ⟨bk⟩, ⟨bz⟩⟩
 case rest =>
  clear HC4
  try clear c6
  try clear c6b0
  try clear c6b1
  try clear hcz7_0 hcz7_1 hcz7_2 hcz7_3 hcz7_4 hcz7_5 hcz7_6 hfz7_0 hfz7_1 hfz7_2 hfz7_3 hfz7_4 hfz7_5 hfz7_6
  try clear hcz8_0 hcz8_1 hcz8_2 hcz8_3 hcz8_4 hcz8_5 hcz8_6 hfz8_0 hfz8_1 hfz8_2 hfz8_3 hfz8_4 hfz8_5 hfz8_6
  obtain ⟨kq, x15_3, rfl, HA, HJ3, BK232, HB⟩ := hcut
  cases kq with
  | zero => exact absurd HA.out (by simp [floats_float_scientific.j0])
  | succ kj3 =>
   have H := HA.out
   clear HA
   simp only [floats_float_scientific.j0] at H
   by_cases c9 : x15_3 = true
   ·subst c9
    replace H := hT H
    by_cases c10 : 0 ≤ 1
    ·replace H := hE H c10
     have c10b0 := eq_true c10
     have c10b1 : decide (0 ≤ 1) = true := decide_eq_true c10
     clear c10
     by_cases c11 : 1 ≤ (a1.size : Int)
     ·replace H := hE H c11
      have c11b0 := eq_true c11
      have c11b1 : decide (1 ≤ (a1.size : Int)) = true := decide_eq_true c11
      clear c11
      have c12b0 := eq_true (of_decide_eq_true (by first | (with_reducible assumption) | assumption) : 1 ≤ (a1.size : Int))
      replace H := bs H
      obtain ⟨t233, A13, H⟩ := H
      replace H := bs H
      obtain ⟨t234, A14, H⟩ := H
      obtain ⟨y235, hy235⟩ : ∃ y_ : List ByteArray, y_ = (([t233, t234] : List ByteArray)) := ⟨_, rfl⟩
      replace H : ((floats_joined.f y235).bind fun t238 => (some t238)) = some r := by first | (rw [hy235]; with_reducible exact H) | (have H2_ := (Option.bind_some _ _).symm.trans H; rw [hy235]; with_reducible exact H2_) | (have H2_ := (Option.bind_some _ _).symm.trans H; with_reducible exact H2_) | with_reducible exact H | (rw [hy235]; exact H) | exact H
      have Ny235 := Aside0.mk hy235
      clear hy235
      replace H := bs H
      obtain ⟨t238, A15, H⟩ := H
      obtain rfl := Option.some.inj H
      try go_wp2
      replace BK232 := Aside0.mk (blk_drew BK232.out)
      replace HB := Aside0.mk (below_drew1 HB.out)
      refine start_ (n := 12) (S := fun w' => w'.cell? ⟨gb232, 0, none⟩ = some (.int .u64 a0_0) ∧ w'.cell? ⟨gb232, 1, none⟩ = some (.int .i64 a0_1) ∧ w'.cell? ⟨gb232, 2, none⟩ = some (.int .u64 a0_2) ∧ w'.cell? ⟨gb232, 3, none⟩ = some (.int .i64 a0_3) ∧ w'.cell? ⟨gb232, 4, none⟩ = some (.int .i64 a0_4) ∧ w'.cell? ⟨gb232, 5, none⟩ = some (.bool a0_5) ∧ w'.cell? ⟨gb232, 6, none⟩ = some (.int .i32 a0_6)) (ds := []) #[false, false, false, false, false, false, false, false, false, false, false, false] (by kernel_rfl) rfl rfl ⟨(blk_cell BK232.out 0).trans rfl, (blk_cell BK232.out 1).trans rfl, (blk_cell BK232.out 2).trans rfl, (blk_cell BK232.out 3).trans rfl, (blk_cell BK232.out 4).trans rfl, (blk_cell BK232.out 5).trans rfl, (blk_cell BK232.out 6).trans rfl⟩ (fun hHeld => ?_); refine with_tabW floats_float_scientific.tab4 floats_float_scientific.bits4 (fun HT_ HW_ => ?_)
      generalize wc.drew = w16 at BK232 HB hHeld ⊢
      refine pure_ (i := 1) (N := some 17) (v := ?_) (a' := ?_) #[false, true, false, false, false, false, false, false, false, false, false, false] rfl rfl (any_of HT_.out (by kernel_rfl)) (fun _ _ _ h => h) (Or.inl ⟨by rfl, ?_⟩) ?_ ?_
      rotate_left
      ·intro w'
       go_simp
       with_reducible rfl
      rotate_left
      ·simp only [Act.put, List.setIfInBounds_toArray, List.set_cons_zero, List.set_cons_succ, i64_w, i32_w]
       rfl
      refine pure_ (i := 2) (N := some 18) (v := ?_) (a' := ?_) #[false, true, true, false, false, false, false, false, false, false, false, false] rfl rfl (any_of HT_.out (by kernel_rfl)) (fun _ _ _ h => h) (Or.inl ⟨by rfl, ?_⟩) ?_ ?_
      rotate_left
      ·intro w'
       go_simp
       with_reducible rfl
      rotate_left
      ·simp only [Act.put, List.setIfInBounds_toArray, List.set_cons_zero, List.set_cons_succ, i64_w, i32_w]
       rfl
      refine pure_ (i := 3) (N := some 19) (v := ?_) (a' := ?_) #[false, true, true, true, false, false, false, false, false, false, false, false] rfl rfl (any_of HT_.out (by kernel_rfl)) (fun _ _ _ h => h) (Or.inl ⟨by rfl, ?_⟩) ?_ ?_
      rotate_left
      ·intro w'
       go_simp
       with_reducible rfl
      rotate_left
      ·simp only [Act.put, List.setIfInBounds_toArray, List.set_cons_zero, List.set_cons_succ, i64_w, i32_w]
       rfl
      refine pure_ (i := 4) (N := some 20) (v := ?_) (a' := ?_) #[false, true, true, true, true, false, false, false, false, false, false, false] rfl rfl (any_of HT_.out (by kernel_rfl)) (fun _ _ _ h => h) (Or.inl ⟨by rfl, ?_⟩) ?_ ?_
      rotate_left
      ·intro w'
       go_simp
       with_reducible rfl
      rotate_left
      ·simp only [Act.put, List.setIfInBounds_toArray, List.set_cons_zero, List.set_cons_succ, i64_w, i32_w]
       rfl
      refine pure_ (i := 6) (N := some 22) (v := ?_) (a' := ?_) #[false, true, true, true, true, false, true, false, false, false, false, false] rfl rfl (any_of HT_.out (by kernel_rfl)) (fun _ _ _ h => h) (Or.inl ⟨by rfl, ?_⟩) ?_ ?_
      rotate_left
      ·intro w'
       go_simp
       with_reducible rfl
      rotate_left
      ·simp only [Act.put, List.setIfInBounds_toArray, List.set_cons_zero, List.set_cons_succ, i64_w, i32_w]
       rfl
      refine pure_ (i := 7) (N := some 23) (v := ?_) (a' := ?_) #[false, true, true, true, true, false, true, true, false, false, false, false] rfl rfl (any_of HT_.out (by kernel_rfl)) (fun _ _ _ h => h) (Or.inl ⟨by rfl, ?_⟩) ?_ ?_
      rotate_left
      ·intro w'
       go_simp
       with_reducible rfl
      rotate_left
      ·simp only [Act.put, List.setIfInBounds_toArray, List.set_cons_zero, List.set_cons_succ, i64_w, i32_w]
       rfl
      refine take_ (i := 0) (N := some 16) (v := ?_) (a' := ?_) #[true, true, true, true, true, false, true, true, false, false, false, false] rfl rfl (take_ofW HT_.out HW_.out (by kernel_rfl)) (fun _ _ _ h => h) (Or.inl ⟨by rfl, ?_⟩) hHeld ?_ ?_
      rotate_left
      ·rintro w' ⟨s0, s1, s2, s3, s4, s5, s6⟩
       go_simp
       with_reducible rfl
      rotate_left
      ·simp only [Act.put, List.setIfInBounds_toArray, List.set_cons_zero, List.set_cons_succ, i64_w, i32_w]
       rfl
      refine one_ (i := 5) (N := some 21) #[true, true, true, true, true, true, true, true, false, false, false, false] rfl rfl (one_of HT_.out (by kernel_rfl)) (by decide) (fun K hK => ?_)
      refine goes_ Tryz.func107 (by kernel_rfl) rfl #[.agg #[.int .u64 a0_0, .int .i64 a0_1, .int .u64 a0_2, .int .i64 a0_3, .int .i64 a0_4, .bool a0_5, .int .i32 a0_6], .string (a1.extract 0 1), .string (a1.extract 1 a1.size)] (by rfl) rfl rfl lz ?_
      with_reducible refine (floats_float_pointed.calls a0_0 a0_1 a0_2 a0_3 a0_4 a0_5 a0_6 (a1.extract 0 1) (a1.extract 1 a1.size) t233 _ A13.out).mono ?_
      rintro e w17 ⟨rfl, hb⟩
      refine ⟨_, rfl, ?_⟩
      replace BK232 := Aside0.mk (blk_below (g := gb232) (o := .cells #[.int .u64 a0_0, .int .i64 a0_1, .int .u64 a0_2, .int .i64 a0_3, .int .i64 a0_4, .bool a0_5, .int .i32 a0_6] 74 (0, 0)) bk hb)
      replace HB := Aside0.mk (below_step bz hb)
      (try clear hb)
      (try clear hb2)
      (try clear hk)
      (try clear hi)
      refine hK.out _ _ ⟨(blk_cell BK232.out 0).trans rfl, (blk_cell BK232.out 1).trans rfl, (blk_cell BK232.out 2).trans rfl, (blk_cell BK232.out 3).trans rfl, (blk_cell BK232.out 4).trans rfl, (blk_cell BK232.out 5).trans rfl, (blk_cell BK232.out 6).trans rfl⟩ (fun hHeld => ?_)
      clear hK K
      refine norm_ (a' := ?_) ?_ ?_
      rotate_left
      ·show Act.put _ (some 21) _ = _
       simp only [Act.put, List.setIfInBounds_toArray, List.set_cons_zero, List.set_cons_succ, i64_w, i32_w]
       rfl
      refine one_ (i := 8) (N := some 24) #[true, true, true, true, true, true, true, true, true, false, false, false] rfl rfl (one_of HT_.out (by kernel_rfl)) (by decide) (fun K hK => ?_)
      refine goes_ Tryz.func111 (by kernel_rfl) rfl #[.string (⟨#[69]⟩ : ByteArray), .int .i64 a2, .int .i64 2] (by rfl) rfl rfl lz ?_
      with_reducible refine (floats_power.calls (⟨#[69]⟩ : ByteArray) a2 2 t234 _ A14.out).mono ?_
      rintro e w18 ⟨rfl, hb⟩
      refine ⟨_, rfl, ?_⟩
      replace BK232 := Aside0.mk (blk_below (g := gb232) (o := .cells #[.int .u64 a0_0, .int .i64 a0_1, .int .u64 a0_2, .int .i64 a0_3, .int .i64 a0_4, .bool a0_5, .int .i32 a0_6] 74 (0, 0)) bk hb)
      replace HB := Aside0.mk (below_step bz hb)
      (try clear hb)
      (try clear hb2)
      (try clear hk)
      (try clear hi)
      refine hK.out _ _ ⟨(blk_cell BK232.out 0).trans rfl, (blk_cell BK232.out 1).trans rfl, (blk_cell BK232.out 2).trans rfl, (blk_cell BK232.out 3).trans rfl, (blk_cell BK232.out 4).trans rfl, (blk_cell BK232.out 5).trans rfl, (blk_cell BK232.out 6).trans rfl⟩ (fun hHeld => ?_)
      clear hK K
      refine norm_ (a' := ?_) ?_ ?_
      rotate_left
      ·show Act.put _ (some 24) _ = _
       simp only [Act.put, List.setIfInBounds_toArray, List.set_cons_zero, List.set_cons_succ, i64_w, i32_w]
       rfl
      refine one_ (i := 9) (N := some 25) #[true, true, true, true, true, true, true, true, true, true, false, false] rfl rfl (one_of HT_.out (by kernel_rfl)) (by decide) (fun K hK => ?_)
      refine Kd.R_lit_step Kd.string _ 9 ?hg (N := 25) ?hd (xs := ([t233, t234] : List ByteArray)) (inner := [.string t233, .string t234]) (ok := fun _ => True) (okp := fun _ => True) ?hr ?hp (fun _ hk => hk) trivial (Below.refl _ _) (Nat.le_refl _) (by simp) ?_; (case hd => rfl); (case hg => rfl); (case hr => first | (go_simp; done) | (go_simp; rfl)); (case hp => exact (Reps.one (show Kd.M Kd.string _ _ _ t233 [.string t233] from rfl) (Reps.one (show Kd.M Kd.string _ _ _ t234 [.string t234] from rfl) (Reps.none _ _))))
      intro v236 w19 ho20 hb hg_ hnew_
      clear hg_ hnew_
      (first | rw [← Ny235.out] at ho20 | (simp only [Int.reduceToNat] at ho20; rw [← Ny235.out] at ho20))
      have HO237 := Aside0.mk (Kd.R_lower ho20 (below_size bz))
      replace BK232 := Aside0.mk (blk_below (g := gb232) (o := .cells #[.int .u64 a0_0, .int .i64 a0_1, .int .u64 a0_2, .int .i64 a0_3, .int .i64 a0_4, .bool a0_5, .int .i32 a0_6] 74 (0, 0)) bk hb)
      replace HB := Aside0.mk (below_step bz hb)
      clear hb ho20
      obtain ⟨Ao21, co21, eo21⟩ := Kd.R_slice HO237.out
      (first | subst eo21 | (injection eo21 with f1_ f2_ f3_; have f4_ := f1_.symm; have f5_ := f3_.symm; clear f1_ f2_ f3_; subst f4_; subst f5_))
      refine hK.out _ _ ⟨(blk_cell BK232.out 0).trans rfl, (blk_cell BK232.out 1).trans rfl, (blk_cell BK232.out 2).trans rfl, (blk_cell BK232.out 3).trans rfl, (blk_cell BK232.out 4).trans rfl, (blk_cell BK232.out 5).trans rfl, (blk_cell BK232.out 6).trans rfl⟩ (fun hHeld => ?_)
      clear hK K
      refine norm_ (a' := ?_) ?_ ?_
      rotate_left
      ·show Act.put _ (some 25) _ = _
       simp only [Act.put, List.setIfInBounds_toArray, List.set_cons_zero, List.set_cons_succ, i64_w, i32_w]
       rfl
      refine one_ (i := 10) (N := some 26) #[true, true, true, true, true, true, true, true, true, true, true, false] rfl rfl (one_of HT_.out (by kernel_rfl)) (by decide) (fun K hK => ?_)
      refine goes_ Tryz.func109 (by kernel_rfl) rfl #[.slice Ao21 y235.length co21] (by rfl) rfl rfl lz ?_
      with_reducible refine (floats_joined.calls _ _ y235 t238 _ ?side1 ?side2 A15.out).mono ?_
      (case side1 => repeat (first | exact (Kd.R_reads' HO237.out).2.2 | (with_reducible refine Kd.C_alloc ?_ _) | (with_reducible refine Kd.C_drewN ?_ _) | (with_reducible refine Kd.C_drew ?_)))
      (case side2 => exact (Kd.R_reads' HO237.out).2.1)
      rintro e w22 ⟨rfl, hb⟩
      refine ⟨_, rfl, ?_⟩
      replace HO237 := Aside0.mk (Kd.R_below (by (with_reducible repeat (first | apply Kd.R_alloc | apply Kd.R_drewN | apply Kd.R_drew)); exact HO237.out) hb)
      replace BK232 := Aside0.mk (blk_below (g := gb232) (o := .cells #[.int .u64 a0_0, .int .i64 a0_1, .int .u64 a0_2, .int .i64 a0_3, .int .i64 a0_4, .bool a0_5, .int .i32 a0_6] 74 (0, 0)) bk hb)
      replace HB := Aside0.mk (below_step bz hb)
      (try clear hb)
      (try clear hb2)
      (try clear hk)
      (try clear hi)
      refine hK.out _ _ ⟨(blk_cell BK232.out 0).trans rfl, (blk_cell BK232.out 1).trans rfl, (blk_cell BK232.out 2).trans rfl, (blk_cell BK232.out 3).trans rfl, (blk_cell BK232.out 4).trans rfl, (blk_cell BK232.out 5).trans rfl, (blk_cell BK232.out 6).trans rfl⟩ (fun hHeld => ?_)
      clear hK K
      refine norm_ (a' := ?_) ?_ ?_
      rotate_left
      ·show Act.put _ (some 26) _ = _
       simp only [Act.put, List.setIfInBounds_toArray, List.set_cons_zero, List.set_cons_succ, i64_w, i32_w]
       rfl
      refine pure_ (i := 11) (N := some 6) (v := ?_) (a' := ?_) #[true, true, true, true, true, true, true, true, true, true, true, true] rfl rfl (any_of HT_.out (by kernel_rfl)) (fun _ _ _ h => h) (Or.inl ⟨by rfl, ?_⟩) ?_ ?_
      rotate_left
      ·intro w'
       go_simp
       with_reducible rfl
      rotate_left
      ·simp only [Act.put, List.setIfInBounds_toArray, List.set_cons_zero, List.set_cons_succ, i64_w, i32_w]
       rfl
      refine done_ (done_of HT_.out (by kernel_rfl)) ?_
      try go_wp2
      go_ret
      exact ⟨ez, bz⟩
     ·replace H := hN H c11
      exact absurd H (by simp)
    ·replace H := hN H c10
     exact absurd H (by simp)
   ·replace c9 := Bool.eq_false_iff.mpr c9
    subst c9
    replace H := hF H
    by_cases c23 : 0 ≤ 1
    ·replace H := hE H c23
     have c23b0 := eq_true c23
     have c23b1 : decide (0 ≤ 1) = true := decide_eq_true c23
     clear c23
     by_cases c24 : 1 ≤ (a1.size : Int)
     ·replace H := hE H c24
      have c24b0 := eq_true c24
      have c24b1 : decide (1 ≤ (a1.size : Int)) = true := decide_eq_true c24
      clear c24
      have c25b0 := eq_true (of_decide_eq_true (by first | (with_reducible assumption) | assumption) : 1 ≤ (a1.size : Int))
      replace H := bs H
      obtain ⟨t239, A26, H⟩ := H
      replace H := bs H
      obtain ⟨t240, A27, H⟩ := H
      obtain ⟨y241, hy241⟩ : ∃ y_ : List ByteArray, y_ = (([t239, t240] : List ByteArray)) := ⟨_, rfl⟩
      replace H : ((floats_joined.f y241).bind fun t244 => (some t244)) = some r := by first | (rw [hy241]; with_reducible exact H) | (have H2_ := (Option.bind_some _ _).symm.trans H; rw [hy241]; with_reducible exact H2_) | (have H2_ := (Option.bind_some _ _).symm.trans H; with_reducible exact H2_) | with_reducible exact H | (rw [hy241]; exact H) | exact H
      have Ny241 := Aside0.mk hy241
      clear hy241
      replace H := bs H
      obtain ⟨t244, A28, H⟩ := H
      obtain rfl := Option.some.inj H
      try go_wp2
      replace BK232 := Aside0.mk (blk_drew BK232.out)
      replace HB := Aside0.mk (below_drew1 HB.out)
      refine start_ (n := 12) (S := fun w' => w'.cell? ⟨gb232, 0, none⟩ = some (.int .u64 a0_0) ∧ w'.cell? ⟨gb232, 1, none⟩ = some (.int .i64 a0_1) ∧ w'.cell? ⟨gb232, 2, none⟩ = some (.int .u64 a0_2) ∧ w'.cell? ⟨gb232, 3, none⟩ = some (.int .i64 a0_3) ∧ w'.cell? ⟨gb232, 4, none⟩ = some (.int .i64 a0_4) ∧ w'.cell? ⟨gb232, 5, none⟩ = some (.bool a0_5) ∧ w'.cell? ⟨gb232, 6, none⟩ = some (.int .i32 a0_6)) (ds := []) #[false, false, false, false, false, false, false, false, false, false, false, false] (by kernel_rfl) rfl rfl ⟨(blk_cell BK232.out 0).trans rfl, (blk_cell BK232.out 1).trans rfl, (blk_cell BK232.out 2).trans rfl, (blk_cell BK232.out 3).trans rfl, (blk_cell BK232.out 4).trans rfl, (blk_cell BK232.out 5).trans rfl, (blk_cell BK232.out 6).trans rfl⟩ (fun hHeld => ?_); refine with_tabW floats_float_scientific.tab4 floats_float_scientific.bits4 (fun HT_ HW_ => ?_)
      generalize wc.drew = w29 at BK232 HB hHeld ⊢
      refine pure_ (i := 1) (N := some 17) (v := ?_) (a' := ?_) #[false, true, false, false, false, false, false, false, false, false, false, false] rfl rfl (any_of HT_.out (by kernel_rfl)) (fun _ _ _ h => h) (Or.inl ⟨by rfl, ?_⟩) ?_ ?_
      rotate_left
      ·intro w'
       go_simp
       with_reducible rfl
      rotate_left
      ·simp only [Act.put, List.setIfInBounds_toArray, List.set_cons_zero, List.set_cons_succ, i64_w, i32_w]
       rfl
      refine pure_ (i := 2) (N := some 18) (v := ?_) (a' := ?_) #[false, true, true, false, false, false, false, false, false, false, false, false] rfl rfl (any_of HT_.out (by kernel_rfl)) (fun _ _ _ h => h) (Or.inl ⟨by rfl, ?_⟩) ?_ ?_
      rotate_left
      ·intro w'
       go_simp
       with_reducible rfl
      rotate_left
      ·simp only [Act.put, List.setIfInBounds_toArray, List.set_cons_zero, List.set_cons_succ, i64_w, i32_w]
       rfl
      refine pure_ (i := 3) (N := some 19) (v := ?_) (a' := ?_) #[false, true, true, true, false, false, false, false, false, false, false, false] rfl rfl (any_of HT_.out (by kernel_rfl)) (fun _ _ _ h => h) (Or.inl ⟨by rfl, ?_⟩) ?_ ?_
      rotate_left
      ·intro w'
       go_simp
       with_reducible rfl
      rotate_left
      ·simp only [Act.put, List.setIfInBounds_toArray, List.set_cons_zero, List.set_cons_succ, i64_w, i32_w]
       rfl
      refine pure_ (i := 4) (N := some 20) (v := ?_) (a' := ?_) #[false, true, true, true, true, false, false, false, false, false, false, false] rfl rfl (any_of HT_.out (by kernel_rfl)) (fun _ _ _ h => h) (Or.inl ⟨by rfl, ?_⟩) ?_ ?_
      rotate_left
      ·intro w'
       go_simp
       with_reducible rfl
      rotate_left
      ·simp only [Act.put, List.setIfInBounds_toArray, List.set_cons_zero, List.set_cons_succ, i64_w, i32_w]
       rfl
      refine pure_ (i := 6) (N := some 22) (v := ?_) (a' := ?_) #[false, true, true, true, true, false, true, false, false, false, false, false] rfl rfl (any_of HT_.out (by kernel_rfl)) (fun _ _ _ h => h) (Or.inl ⟨by rfl, ?_⟩) ?_ ?_
      rotate_left
      ·intro w'
       go_simp
       with_reducible rfl
      rotate_left
      ·simp only [Act.put, List.setIfInBounds_toArray, List.set_cons_zero, List.set_cons_succ, i64_w, i32_w]
       rfl
      refine pure_ (i := 7) (N := some 23) (v := ?_) (a' := ?_) #[false, true, true, true, true, false, true, true, false, false, false, false] rfl rfl (any_of HT_.out (by kernel_rfl)) (fun _ _ _ h => h) (Or.inl ⟨by rfl, ?_⟩) ?_ ?_
      rotate_left
      ·intro w'
       go_simp
       with_reducible rfl
      rotate_left
      ·simp only [Act.put, List.setIfInBounds_toArray, List.set_cons_zero, List.set_cons_succ, i64_w, i32_w]
       rfl
      refine take_ (i := 0) (N := some 16) (v := ?_) (a' := ?_) #[true, true, true, true, true, false, true, true, false, false, false, false] rfl rfl (take_ofW HT_.out HW_.out (by kernel_rfl)) (fun _ _ _ h => h) (Or.inl ⟨by rfl, ?_⟩) hHeld ?_ ?_
      rotate_left
      ·rintro w' ⟨s0, s1, s2, s3, s4, s5, s6⟩
       go_simp
       with_reducible rfl
      rotate_left
      ·simp only [Act.put, List.setIfInBounds_toArray, List.set_cons_zero, List.set_cons_succ, i64_w, i32_w]
       rfl
      refine one_ (i := 5) (N := some 21) #[true, true, true, true, true, true, true, true, false, false, false, false] rfl rfl (one_of HT_.out (by kernel_rfl)) (by decide) (fun K hK => ?_)
      refine goes_ Tryz.func107 (by kernel_rfl) rfl #[.agg #[.int .u64 a0_0, .int .i64 a0_1, .int .u64 a0_2, .int .i64 a0_3, .int .i64 a0_4, .bool a0_5, .int .i32 a0_6], .string (a1.extract 0 1), .string (a1.extract 1 a1.size)] (by rfl) rfl rfl lz ?_
      with_reducible refine (floats_float_pointed.calls a0_0 a0_1 a0_2 a0_3 a0_4 a0_5 a0_6 (a1.extract 0 1) (a1.extract 1 a1.size) t239 _ A26.out).mono ?_
      rintro e w30 ⟨rfl, hb⟩
      refine ⟨_, rfl, ?_⟩
      replace BK232 := Aside0.mk (blk_below (g := gb232) (o := .cells #[.int .u64 a0_0, .int .i64 a0_1, .int .u64 a0_2, .int .i64 a0_3, .int .i64 a0_4, .bool a0_5, .int .i32 a0_6] 74 (0, 0)) bk hb)
      replace HB := Aside0.mk (below_step bz hb)
      (try clear hb)
      (try clear hb2)
      (try clear hk)
      (try clear hi)
      refine hK.out _ _ ⟨(blk_cell BK232.out 0).trans rfl, (blk_cell BK232.out 1).trans rfl, (blk_cell BK232.out 2).trans rfl, (blk_cell BK232.out 3).trans rfl, (blk_cell BK232.out 4).trans rfl, (blk_cell BK232.out 5).trans rfl, (blk_cell BK232.out 6).trans rfl⟩ (fun hHeld => ?_)
      clear hK K
      refine norm_ (a' := ?_) ?_ ?_
      rotate_left
      ·show Act.put _ (some 21) _ = _
       simp only [Act.put, List.setIfInBounds_toArray, List.set_cons_zero, List.set_cons_succ, i64_w, i32_w]
       rfl
      refine one_ (i := 8) (N := some 24) #[true, true, true, true, true, true, true, true, true, false, false, false] rfl rfl (one_of HT_.out (by kernel_rfl)) (by decide) (fun K hK => ?_)
      refine goes_ Tryz.func111 (by kernel_rfl) rfl #[.string (⟨#[101]⟩ : ByteArray), .int .i64 a2, .int .i64 2] (by rfl) rfl rfl lz ?_
      with_reducible refine (floats_power.calls (⟨#[101]⟩ : ByteArray) a2 2 t240 _ A27.out).mono ?_
      rintro e w31 ⟨rfl, hb⟩
      refine ⟨_, rfl, ?_⟩
      replace BK232 := Aside0.mk (blk_below (g := gb232) (o := .cells #[.int .u64 a0_0, .int .i64 a0_1, .int .u64 a0_2, .int .i64 a0_3, .int .i64 a0_4, .bool a0_5, .int .i32 a0_6] 74 (0, 0)) bk hb)
      replace HB := Aside0.mk (below_step bz hb)
      (try clear hb)
      (try clear hb2)
      (try clear hk)
      (try clear hi)
      refine hK.out _ _ ⟨(blk_cell BK232.out 0).trans rfl, (blk_cell BK232.out 1).trans rfl, (blk_cell BK232.out 2).trans rfl, (blk_cell BK232.out 3).trans rfl, (blk_cell BK232.out 4).trans rfl, (blk_cell BK232.out 5).trans rfl, (blk_cell BK232.out 6).trans rfl⟩ (fun hHeld => ?_)
      clear hK K
      refine norm_ (a' := ?_) ?_ ?_
      rotate_left
      ·show Act.put _ (some 24) _ = _
       simp only [Act.put, List.setIfInBounds_toArray, List.set_cons_zero, List.set_cons_succ, i64_w, i32_w]
       rfl
      refine one_ (i := 9) (N := some 25) #[true, true, true, true, true, true, true, true, true, true, false, false] rfl rfl (one_of HT_.out (by kernel_rfl)) (by decide) (fun K hK => ?_)
      refine Kd.R_lit_step Kd.string _ 9 ?hg (N := 25) ?hd (xs := ([t239, t240] : List ByteArray)) (inner := [.string t239, .string t240]) (ok := fun _ => True) (okp := fun _ => True) ?hr ?hp (fun _ hk => hk) trivial (Below.refl _ _) (Nat.le_refl _) (by simp) ?_; (case hd => rfl); (case hg => rfl); (case hr => first | (go_simp; done) | (go_simp; rfl)); (case hp => exact (Reps.one (show Kd.M Kd.string _ _ _ t239 [.string t239] from rfl) (Reps.one (show Kd.M Kd.string _ _ _ t240 [.string t240] from rfl) (Reps.none _ _))))
      intro v242 w32 ho33 hb hg_ hnew_
      clear hg_ hnew_
      (first | rw [← Ny241.out] at ho33 | (simp only [Int.reduceToNat] at ho33; rw [← Ny241.out] at ho33))
      have HO243 := Aside0.mk (Kd.R_lower ho33 (below_size bz))
      replace BK232 := Aside0.mk (blk_below (g := gb232) (o := .cells #[.int .u64 a0_0, .int .i64 a0_1, .int .u64 a0_2, .int .i64 a0_3, .int .i64 a0_4, .bool a0_5, .int .i32 a0_6] 74 (0, 0)) bk hb)
      replace HB := Aside0.mk (below_step bz hb)
      clear hb ho33
      obtain ⟨Ao34, co34, eo34⟩ := Kd.R_slice HO243.out
      (first | subst eo34 | (injection eo34 with f1_ f2_ f3_; have f4_ := f1_.symm; have f5_ := f3_.symm; clear f1_ f2_ f3_; subst f4_; subst f5_))
      refine hK.out _ _ ⟨(blk_cell BK232.out 0).trans rfl, (blk_cell BK232.out 1).trans rfl, (blk_cell BK232.out 2).trans rfl, (blk_cell BK232.out 3).trans rfl, (blk_cell BK232.out 4).trans rfl, (blk_cell BK232.out 5).trans rfl, (blk_cell BK232.out 6).trans rfl⟩ (fun hHeld => ?_)
      clear hK K
      refine norm_ (a' := ?_) ?_ ?_
      rotate_left
      ·show Act.put _ (some 25) _ = _
       simp only [Act.put, List.setIfInBounds_toArray, List.set_cons_zero, List.set_cons_succ, i64_w, i32_w]
       rfl
      refine one_ (i := 10) (N := some 26) #[true, true, true, true, true, true, true, true, true, true, true, false] rfl rfl (one_of HT_.out (by kernel_rfl)) (by decide) (fun K hK => ?_)
      refine goes_ Tryz.func109 (by kernel_rfl) rfl #[.slice Ao34 y241.length co34] (by rfl) rfl rfl lz ?_
      with_reducible refine (floats_joined.calls _ _ y241 t244 _ ?side1 ?side2 A28.out).mono ?_
      (case side1 => repeat (first | exact (Kd.R_reads' HO243.out).2.2 | (with_reducible refine Kd.C_alloc ?_ _) | (with_reducible refine Kd.C_drewN ?_ _) | (with_reducible refine Kd.C_drew ?_)))
      (case side2 => exact (Kd.R_reads' HO243.out).2.1)
      rintro e w35 ⟨rfl, hb⟩
      refine ⟨_, rfl, ?_⟩
      replace HO243 := Aside0.mk (Kd.R_below (by (with_reducible repeat (first | apply Kd.R_alloc | apply Kd.R_drewN | apply Kd.R_drew)); exact HO243.out) hb)
      replace BK232 := Aside0.mk (blk_below (g := gb232) (o := .cells #[.int .u64 a0_0, .int .i64 a0_1, .int .u64 a0_2, .int .i64 a0_3, .int .i64 a0_4, .bool a0_5, .int .i32 a0_6] 74 (0, 0)) bk hb)
      replace HB := Aside0.mk (below_step bz hb)
      (try clear hb)
      (try clear hb2)
      (try clear hk)
      (try clear hi)
      refine hK.out _ _ ⟨(blk_cell BK232.out 0).trans rfl, (blk_cell BK232.out 1).trans rfl, (blk_cell BK232.out 2).trans rfl, (blk_cell BK232.out 3).trans rfl, (blk_cell BK232.out 4).trans rfl, (blk_cell BK232.out 5).trans rfl, (blk_cell BK232.out 6).trans rfl⟩ (fun hHeld => ?_)
      clear hK K
      refine norm_ (a' := ?_) ?_ ?_
      rotate_left
      ·show Act.put _ (some 26) _ = _
       simp only [Act.put, List.setIfInBounds_toArray, List.set_cons_zero, List.set_cons_succ, i64_w, i32_w]
       rfl
      refine pure_ (i := 11) (N := some 6) (v := ?_) (a' := ?_) #[true, true, true, true, true, true, true, true, true, true, true, true] rfl rfl (any_of HT_.out (by kernel_rfl)) (fun _ _ _ h => h) (Or.inl ⟨by rfl, ?_⟩) ?_ ?_
      rotate_left
      ·intro w'
       go_simp
       with_reducible rfl
      rotate_left
      ·simp only [Act.put, List.setIfInBounds_toArray, List.set_cons_zero, List.set_cons_succ, i64_w, i32_w]
       rfl
      refine done_ (done_of HT_.out (by kernel_rfl)) ?_
      try go_wp2
      go_ret
      exact ⟨ez, bz⟩
     ·replace H := hN H c24
      exact absurd H (by simp)
    ·replace H := hN H c23
     exact absurd H (by simp)
end Go.Proofs.YtecpgdfnamkfdaaGreatDoor.Fn
end
section
namespace Go.Proofs.YtecpgdfnamkfdaaGreatDoor.Fn
open Go.RowKit Go.Proofs.YtecpgdfnamkfdaaGreatDoorW.PrintWords Go.Proofs.YtecpgdfnamkfdaaGreatDoorW.PrintLast Go.Proofs.YtecpgdfnamkfdaaGreatDoorW.PrintMore
attribute [local go_sem] fnW_0 fnW_1 fnW_2 fnW_3 fnW_4 fnW_5 fnW_guard fnW_eql max2_int min2_int max_two min_two
set_option linter.unusedVariables false
set_option linter.unusedSimpArgs false
def floats_first.f (a0_0 : ByteArray) (a0_1 : Int) : Option (Int) := if a0_0.toList = ([] : List UInt8) then (some 0) else (some (wrap64 (a0_1 - 1)))
set_option maxHeartbeats 8000000 in
set_option maxRecDepth 100000 in
theorem floats_first.calls (a0_0 : ByteArray) (a0_1 : Int) (r : Int) (w : World) (h : floats_first.f a0_0 a0_1 = some r) :
  Calls Tryz.prog 106 #[.agg #[.string a0_0, .int .i64 a0_1]] w fun e w' => e = .returned (.int .i64 r) ∧ Below w.heap.size w w' := by
 have hu42 := Tryz.underlying42
 have HB := Aside0.mk (Below.refl w.heap.size w)
 have H : (if a0_0.toList = ([] : List UInt8) then (some 0) else (some (wrap64 (a0_1 - 1)))) = some r := h
 clear h
 go_enter Tryz.func106, Tryz.ntmps106
 go_upto_if 5 with (first | ((with_reducible refine gate_dst (N := 1) rfl ?_); refine box_event rfl (N := 1) rfl (cs := #[.string a0_0, .int .i64 a0_1]) (t := 42) gz ?_; intro gb246 hg w2 hbox hb; have GE246 := gN bz hg; have BK246 := Aside0.mk hbox; replace HB := bN bz hb; clear hb hbox hg; obtain ⟨hcz3_0, hcz3_1, hfz3_0, hfz3_1⟩ := cz2 (W := w2) BK246))
 (try simp only [Act.put, List.setIfInBounds_toArray, List.set_cons_zero, List.set_cons_succ])
 by_cases c4 : a0_0.toList = ([] : List UInt8)
 ·replace H := hE H c4
  have c4b0 : (a0_0.toList == ([] : List UInt8)) = true := beq_iff_eq.mpr c4
  have c4b1 : (a0_0.toList != ([] : List UInt8)) = false := bne_eq_false_iff_eq.mpr c4
  have c4b7 : a0_0.toList.isEmpty = true := by simpa using c4b0
  clear c4
  try first | rw [c4b0] | rw [c4b1] | rw [c4b7]
  obtain rfl := Option.some.inj H
  go_wp2
  go_ret
  exact ⟨ez, bz⟩
 ·replace H := hN H c4
  have c4b0 : (a0_0.toList == ([] : List UInt8)) = false := beq_eq_false_iff_ne.mpr c4
  have c4b1 : (a0_0.toList != ([] : List UInt8)) = true := bne_iff_ne.mpr c4
  have c4b7 : a0_0.toList.isEmpty = false := by simpa using c4b0
  try first | rw [c4b0] | rw [c4b1] | rw [c4b7]
  obtain rfl := Option.some.inj H
  obtain ⟨hcz5_0, hcz5_1, hfz5_0, hfz5_1⟩ := cz2 (W := w2) BK246
  go_wp2
  go_ret
  exact ⟨ez, bz⟩
end Go.Proofs.YtecpgdfnamkfdaaGreatDoor.Fn
end
section
namespace Go.Proofs.YtecpgdfnamkfdaaGreatDoor.Fn
open Go.RowKit Go.Proofs.YtecpgdfnamkfdaaGreatDoorW.PrintWords Go.Proofs.YtecpgdfnamkfdaaGreatDoorW.PrintLast Go.Proofs.YtecpgdfnamkfdaaGreatDoorW.PrintMore
attribute [local go_sem] fnW_0 fnW_1 fnW_2 fnW_3 fnW_4 fnW_5 fnW_guard fnW_eql max2_int min2_int max_two min_two
set_option linter.unusedVariables false
set_option linter.unusedSimpArgs false
def floats_float_binary.f (a0_0 : Int) (a0_1 : Int) (a0_2 : Int) (a0_3 : Int) (a0_4 : Int) (a0_5 : Bool) (a0_6 : Int) : Option (ByteArray) := (ints_Digits.f a0_2 10).bind fun t373 => ((floats_power.f (⟨#[112]⟩ : ByteArray) a0_3 1).bind fun t374 => ((floats_joined.f (([t373, t374] : List ByteArray))).bind fun t378 => (some t378)))
def floats_float_binary.T1 : Bool × List (List Nat × List Nat) := (true, [([], []), ([0], [0]), ([1], [1]), ([], []), ([3], [3]), ([4, 2], [4]), ([2, 5], [2, 5]), ([6, 5], [6]), ([7, 7, 0, 1, 2, 3, 4, 5, 6, 7], [7])])
def floats_float_binary.B1 : List Nat := [0, 1, 3, 0, 8, 31, 63, 127, 255]
theorem floats_float_binary.tab1 : rtab .any (opsOf Tryz.f69 1) = floats_float_binary.T1 := by kernel_rfl
theorem floats_float_binary.bits1 : waitsOk floats_float_binary.T1.2 floats_float_binary.B1 = true := by kernel_rfl
set_option maxHeartbeats 8000000 in
set_option maxRecDepth 100000 in
theorem floats_float_binary.calls (a0_0 : Int) (a0_1 : Int) (a0_2 : Int) (a0_3 : Int) (a0_4 : Int) (a0_5 : Bool) (a0_6 : Int) (r : ByteArray) (w : World) (h : floats_float_binary.f a0_0 a0_1 a0_2 a0_3 a0_4 a0_5 a0_6 = some r) :
  Calls Tryz.prog 69 #[.agg #[.int .u64 a0_0, .int .i64 a0_1, .int .u64 a0_2, .int .i64 a0_3, .int .i64 a0_4, .bool a0_5, .int .i32 a0_6]] w fun e w' => e = .returned (.string r) ∧ Below w.heap.size w w' := by
 have hu74 := Tryz.underlying74
 have HB := Aside0.mk (Below.refl w.heap.size w)
 have H : ((ints_Digits.f a0_2 10).bind fun t373 => ((floats_power.f (⟨#[112]⟩ : ByteArray) a0_3 1).bind fun t374 => ((floats_joined.f (([t373, t374] : List ByteArray))).bind fun t378 => (some t378)))) = some r := h
 clear h
 replace H := bs H
 obtain ⟨t373, A2, H⟩ := H
 replace H := bs H
 obtain ⟨t374, A3, H⟩ := H
 obtain ⟨y375, hy375⟩ : ∃ y_ : List ByteArray, y_ = (([t373, t374] : List ByteArray)) := ⟨_, rfl⟩
 replace H : ((floats_joined.f y375).bind fun t378 => (some t378)) = some r := by first | (rw [hy375]; with_reducible exact H) | (have H2_ := (Option.bind_some _ _).symm.trans H; rw [hy375]; with_reducible exact H2_) | (have H2_ := (Option.bind_some _ _).symm.trans H; with_reducible exact H2_) | with_reducible exact H | (rw [hy375]; exact H) | exact H
 have Ny375 := Aside0.mk hy375
 clear hy375
 replace H := bs H
 obtain ⟨t378, A4, H⟩ := H
 obtain rfl := Option.some.inj H
 go_enter Tryz.func69, Tryz.ntmps69
 try go_wp2_with (first | ((with_reducible refine gate_dst (N := 1) rfl ?_); refine box_event rfl (N := 1) rfl (cs := #[.int .u64 a0_0, .int .i64 a0_1, .int .u64 a0_2, .int .i64 a0_3, .int .i64 a0_4, .bool a0_5, .int .i32 a0_6]) (t := 74) gz ?_; intro gb372 hg w5 hbox hb; have GE372 := gN bz hg; have BK372 := Aside0.mk hbox; replace HB := bN bz hb; clear hb hbox hg))
 replace BK372 := Aside0.mk (blk_drew BK372.out)
 replace HB := Aside0.mk (below_drew1 HB.out)
 refine start_ (n := 9) (S := fun w' => w'.cell? ⟨gb372, 0, none⟩ = some (.int .u64 a0_0) ∧ w'.cell? ⟨gb372, 1, none⟩ = some (.int .i64 a0_1) ∧ w'.cell? ⟨gb372, 2, none⟩ = some (.int .u64 a0_2) ∧ w'.cell? ⟨gb372, 3, none⟩ = some (.int .i64 a0_3) ∧ w'.cell? ⟨gb372, 4, none⟩ = some (.int .i64 a0_4) ∧ w'.cell? ⟨gb372, 5, none⟩ = some (.bool a0_5) ∧ w'.cell? ⟨gb372, 6, none⟩ = some (.int .i32 a0_6)) (ds := []) #[false, false, false, false, false, false, false, false, false] (by kernel_rfl) rfl rfl ⟨(blk_cell BK372.out 0).trans rfl, (blk_cell BK372.out 1).trans rfl, (blk_cell BK372.out 2).trans rfl, (blk_cell BK372.out 3).trans rfl, (blk_cell BK372.out 4).trans rfl, (blk_cell BK372.out 5).trans rfl, (blk_cell BK372.out 6).trans rfl⟩ (fun hHeld => ?_); refine with_tabW floats_float_binary.tab1 floats_float_binary.bits1 (fun HT_ HW_ => ?_)
 generalize w5.drew = w6 at BK372 HB hHeld ⊢
 refine pure_ (i := 0) (N := some 3) (v := ?_) (a' := ?_) #[true, false, false, false, false, false, false, false, false] rfl rfl (any_of HT_.out (by kernel_rfl)) (fun _ _ _ h => h) (Or.inl ⟨by rfl, ?_⟩) ?_ ?_
 rotate_left
 ·intro w'
  go_simp
  with_reducible rfl
 rotate_left
 ·simp only [Act.put, List.setIfInBounds_toArray, List.set_cons_zero, List.set_cons_succ, i64_w, i32_w]
  rfl
 refine pure_ (i := 3) (N := some 6) (v := ?_) (a' := ?_) #[true, false, false, true, false, false, false, false, false] rfl rfl (any_of HT_.out (by kernel_rfl)) (fun _ _ _ h => h) (Or.inl ⟨by rfl, ?_⟩) ?_ ?_
 rotate_left
 ·intro w'
  go_simp
  with_reducible rfl
 rotate_left
 ·simp only [Act.put, List.setIfInBounds_toArray, List.set_cons_zero, List.set_cons_succ, i64_w, i32_w]
  rfl
 refine take_ (i := 1) (N := some 4) (v := ?_) (a' := ?_) #[true, true, false, true, false, false, false, false, false] rfl rfl (take_ofW HT_.out HW_.out (by kernel_rfl)) (fun _ _ _ h => h) (Or.inl ⟨by rfl, ?_⟩) hHeld ?_ ?_
 rotate_left
 ·rintro w' ⟨s0, s1, s2, s3, s4, s5, s6⟩
  go_simp
  with_reducible rfl
 rotate_left
 ·simp only [Act.put, List.setIfInBounds_toArray, List.set_cons_zero, List.set_cons_succ, i64_w, i32_w]
  rfl
 refine take_ (i := 4) (N := some 7) (v := ?_) (a' := ?_) #[true, true, false, true, true, false, false, false, false] rfl rfl (take_ofW HT_.out HW_.out (by kernel_rfl)) (fun _ _ _ h => h) (Or.inl ⟨by rfl, ?_⟩) hHeld ?_ ?_
 rotate_left
 ·rintro w' ⟨s0, s1, s2, s3, s4, s5, s6⟩
  go_simp
  with_reducible rfl
 rotate_left
 ·simp only [Act.put, List.setIfInBounds_toArray, List.set_cons_zero, List.set_cons_succ, i64_w, i32_w]
  rfl
 refine one_ (i := 2) (N := some 5) #[true, true, true, true, true, false, false, false, false] rfl rfl (one_of HT_.out (by kernel_rfl)) (by decide) (fun K hK => ?_)
 refine goes_ Tryz.func110 (by kernel_rfl) rfl #[.int .u64 a0_2, .int .i64 10] (by rfl) rfl rfl lz ?_
 with_reducible refine (ints_Digits.calls a0_2 10 t373 _ A2.out).mono ?_
 rintro e w7 ⟨rfl, hb⟩
 refine ⟨_, rfl, ?_⟩
 replace BK372 := Aside0.mk (blk_below (g := gb372) (o := .cells #[.int .u64 a0_0, .int .i64 a0_1, .int .u64 a0_2, .int .i64 a0_3, .int .i64 a0_4, .bool a0_5, .int .i32 a0_6] 74 (0, 0)) bk hb)
 replace HB := Aside0.mk (below_step bz hb)
 (try clear hb)
 (try clear hb2)
 (try clear hk)
 (try clear hi)
 refine hK.out _ _ ⟨(blk_cell BK372.out 0).trans rfl, (blk_cell BK372.out 1).trans rfl, (blk_cell BK372.out 2).trans rfl, (blk_cell BK372.out 3).trans rfl, (blk_cell BK372.out 4).trans rfl, (blk_cell BK372.out 5).trans rfl, (blk_cell BK372.out 6).trans rfl⟩ (fun hHeld => ?_)
 clear hK K
 refine norm_ (a' := ?_) ?_ ?_
 rotate_left
 ·show Act.put _ (some 5) _ = _
  simp only [Act.put, List.setIfInBounds_toArray, List.set_cons_zero, List.set_cons_succ, i64_w, i32_w]
  rfl
 refine one_ (i := 5) (N := some 8) #[true, true, true, true, true, true, false, false, false] rfl rfl (one_of HT_.out (by kernel_rfl)) (by decide) (fun K hK => ?_)
 refine goes_ Tryz.func111 (by kernel_rfl) rfl #[.string (⟨#[112]⟩ : ByteArray), .int .i64 a0_3, .int .i64 1] (by rfl) rfl rfl lz ?_
 with_reducible refine (floats_power.calls (⟨#[112]⟩ : ByteArray) a0_3 1 t374 _ A3.out).mono ?_
 rintro e w8 ⟨rfl, hb⟩
 refine ⟨_, rfl, ?_⟩
 replace BK372 := Aside0.mk (blk_below (g := gb372) (o := .cells #[.int .u64 a0_0, .int .i64 a0_1, .int .u64 a0_2, .int .i64 a0_3, .int .i64 a0_4, .bool a0_5, .int .i32 a0_6] 74 (0, 0)) bk hb)
 replace HB := Aside0.mk (below_step bz hb)
 (try clear hb)
 (try clear hb2)
 (try clear hk)
 (try clear hi)
 refine hK.out _ _ ⟨(blk_cell BK372.out 0).trans rfl, (blk_cell BK372.out 1).trans rfl, (blk_cell BK372.out 2).trans rfl, (blk_cell BK372.out 3).trans rfl, (blk_cell BK372.out 4).trans rfl, (blk_cell BK372.out 5).trans rfl, (blk_cell BK372.out 6).trans rfl⟩ (fun hHeld => ?_)
 clear hK K
 refine norm_ (a' := ?_) ?_ ?_
 rotate_left
 ·show Act.put _ (some 8) _ = _
  simp only [Act.put, List.setIfInBounds_toArray, List.set_cons_zero, List.set_cons_succ, i64_w, i32_w]
  rfl
 refine one_ (i := 6) (N := some 9) #[true, true, true, true, true, true, true, false, false] rfl rfl (one_of HT_.out (by kernel_rfl)) (by decide) (fun K hK => ?_)
 refine Kd.R_lit_step Kd.string _ 9 ?hg (N := 9) ?hd (xs := ([t373, t374] : List ByteArray)) (inner := [.string t373, .string t374]) (ok := fun _ => True) (okp := fun _ => True) ?hr ?hp (fun _ hk => hk) trivial (Below.refl _ _) (Nat.le_refl _) (by simp) ?_; (case hd => rfl); (case hg => rfl); (case hr => first | (go_simp; done) | (go_simp; rfl)); (case hp => exact (Reps.one (show Kd.M Kd.string _ _ _ t373 [.string t373] from rfl) (Reps.one (show Kd.M Kd.string _ _ _ t374 [.string t374] from rfl) (Reps.none _ _))))
 intro v376 w9 ho10 hb hg_ hnew_
 clear hg_ hnew_
 (first | rw [← Ny375.out] at ho10 | (simp only [Int.reduceToNat] at ho10; rw [← Ny375.out] at ho10))
 have HO377 := Aside0.mk (Kd.R_lower ho10 (below_size bz))
 replace BK372 := Aside0.mk (blk_below (g := gb372) (o := .cells #[.int .u64 a0_0, .int .i64 a0_1, .int .u64 a0_2, .int .i64 a0_3, .int .i64 a0_4, .bool a0_5, .int .i32 a0_6] 74 (0, 0)) bk hb)
 replace HB := Aside0.mk (below_step bz hb)
 clear hb ho10
 obtain ⟨Ao11, co11, eo11⟩ := Kd.R_slice HO377.out
 (first | subst eo11 | (injection eo11 with f1_ f2_ f3_; have f4_ := f1_.symm; have f5_ := f3_.symm; clear f1_ f2_ f3_; subst f4_; subst f5_))
 refine hK.out _ _ ⟨(blk_cell BK372.out 0).trans rfl, (blk_cell BK372.out 1).trans rfl, (blk_cell BK372.out 2).trans rfl, (blk_cell BK372.out 3).trans rfl, (blk_cell BK372.out 4).trans rfl, (blk_cell BK372.out 5).trans rfl, (blk_cell BK372.out 6).trans rfl⟩ (fun hHeld => ?_)
 clear hK K
 refine norm_ (a' := ?_) ?_ ?_
 rotate_left
 ·show Act.put _ (some 9) _ = _
  simp only [Act.put, List.setIfInBounds_toArray, List.set_cons_zero, List.set_cons_succ, i64_w, i32_w]
  rfl
 refine one_ (i := 7) (N := some 10) #[true, true, true, true, true, true, true, true, false] rfl rfl (one_of HT_.out (by kernel_rfl)) (by decide) (fun K hK => ?_)
 refine goes_ Tryz.func109 (by kernel_rfl) rfl #[.slice Ao11 y375.length co11] (by rfl) rfl rfl lz ?_
 with_reducible refine (floats_joined.calls _ _ y375 t378 _ ?side1 ?side2 A4.out).mono ?_
 (case side1 => repeat (first | exact (Kd.R_reads' HO377.out).2.2 | (with_reducible refine Kd.C_alloc ?_ _) | (with_reducible refine Kd.C_drewN ?_ _) | (with_reducible refine Kd.C_drew ?_)))
 (case side2 => exact (Kd.R_reads' HO377.out).2.1)
 rintro e w12 ⟨rfl, hb⟩
 refine ⟨_, rfl, ?_⟩
 replace HO377 := Aside0.mk (Kd.R_below (by (with_reducible repeat (first | apply Kd.R_alloc | apply Kd.R_drewN | apply Kd.R_drew)); exact HO377.out) hb)
 replace BK372 := Aside0.mk (blk_below (g := gb372) (o := .cells #[.int .u64 a0_0, .int .i64 a0_1, .int .u64 a0_2, .int .i64 a0_3, .int .i64 a0_4, .bool a0_5, .int .i32 a0_6] 74 (0, 0)) bk hb)
 replace HB := Aside0.mk (below_step bz hb)
 (try clear hb)
 (try clear hb2)
 (try clear hk)
 (try clear hi)
 refine hK.out _ _ ⟨(blk_cell BK372.out 0).trans rfl, (blk_cell BK372.out 1).trans rfl, (blk_cell BK372.out 2).trans rfl, (blk_cell BK372.out 3).trans rfl, (blk_cell BK372.out 4).trans rfl, (blk_cell BK372.out 5).trans rfl, (blk_cell BK372.out 6).trans rfl⟩ (fun hHeld => ?_)
 clear hK K
 refine norm_ (a' := ?_) ?_ ?_
 rotate_left
 ·show Act.put _ (some 10) _ = _
  simp only [Act.put, List.setIfInBounds_toArray, List.set_cons_zero, List.set_cons_succ, i64_w, i32_w]
  rfl
 refine pure_ (i := 8) (N := some 2) (v := ?_) (a' := ?_) #[true, true, true, true, true, true, true, true, true] rfl rfl (any_of HT_.out (by kernel_rfl)) (fun _ _ _ h => h) (Or.inl ⟨by rfl, ?_⟩) ?_ ?_
 rotate_left
 ·intro w'
  go_simp
  with_reducible rfl
 rotate_left
 ·simp only [Act.put, List.setIfInBounds_toArray, List.set_cons_zero, List.set_cons_succ, i64_w, i32_w]
  rfl
 refine done_ (done_of HT_.out (by kernel_rfl)) ?_
 try go_wp2
 go_ret
 exact ⟨ez, bz⟩
end Go.Proofs.YtecpgdfnamkfdaaGreatDoor.Fn
end
section
namespace Go.Proofs.YtecpgdfnamkfdaaGreatDoor.Fn
open Go.RowKit Go.Proofs.YtecpgdfnamkfdaaGreatDoorW.PrintWords Go.Proofs.YtecpgdfnamkfdaaGreatDoorW.PrintLast Go.Proofs.YtecpgdfnamkfdaaGreatDoorW.PrintMore
attribute [local go_sem] fnW_0 fnW_1 fnW_2 fnW_3 fnW_4 fnW_5 fnW_guard fnW_eql max2_int min2_int max_two min_two
set_option linter.unusedVariables false
set_option linter.unusedSimpArgs false
def floats_sixteen.f (a0 : Int) : Option (ByteArray) := (ints_Digits.f a0 16).bind fun t379 => ((strings_Repeat.f (⟨#[48]⟩ : ByteArray) (wrap64 (16 - (t379.size : Int)))).bind fun t380 => (if t380.size + t379.size ≤ 9223372036854775807 then (some (t380 ++ t379)) else (none)))
set_option maxHeartbeats 8000000 in
set_option maxRecDepth 100000 in
theorem floats_sixteen.calls (a0 : Int) (r : ByteArray) (w : World) (h : floats_sixteen.f a0 = some r) :
  Calls Tryz.prog 113 #[.int .u64 a0] w fun e w' => e = .returned (.string r) ∧ Below w.heap.size w w' := by
 have HB := Aside0.mk (Below.refl w.heap.size w)
 have H : ((ints_Digits.f a0 16).bind fun t379 => ((strings_Repeat.f (⟨#[48]⟩ : ByteArray) (wrap64 (16 - (t379.size : Int)))).bind fun t380 => (if t380.size + t379.size ≤ 9223372036854775807 then (some (t380 ++ t379)) else (none)))) = some r := h
 clear h
 replace H := bs H
 obtain ⟨t379, A2, H⟩ := H
 replace H := bs H
 obtain ⟨t380, A3, H⟩ := H
 by_cases c4 : t380.size + t379.size ≤ 9223372036854775807
 ·replace H := hE H c4
  have c4b0 := eq_true c4
  have c4b1 : decide (t380.size + t379.size ≤ 9223372036854775807) = true := decide_eq_true c4
  try have c4b2 : (9223372036854775807 < t380.size + t379.size) = False := eq_false (Nat.not_lt.2 c4)
  obtain rfl := Option.some.inj H
  have hw_ : wrap64 (16 - (t379.size : Int)) = 16 - (t379.size : Int) := by unfold wrap64; omega
  have A_ := A3.out
  clear A3
  rw [hw_] at A_
  clear hw_
  have A3 := Aside0.mk A_
  clear A_
  go_enter Tryz.func113, Tryz.ntmps113
  go_wp2_with (first | ((with_reducible refine gate_callee (f := 110) rfl ?_); refine goesL_ (some 5) rfl rfl Tryz.func110 (by kernel_rfl) rfl #[.int .u64 a0, .int .i64 16] rfl lz ?_; (with_reducible refine (ints_Digits.calls a0 16 t379 _ A2.out).mono ?_); rintro e w5 ⟨rfl, hb⟩; refine ⟨_, rfl, ?_⟩; replace HB := bN bz hb; (try clear hb); (try clear hb2); (try clear hk); (try clear hi)) | ((with_reducible refine gate_callee (f := 46) rfl ?_); refine goesL_ (some 9) rfl rfl Tryz.func46 (by kernel_rfl) rfl #[.string (⟨#[48]⟩ : ByteArray), .int .i64 (16 - (t379.size : Int))] rfl lz ?_; (with_reducible refine (strings_Repeat.calls (⟨#[48]⟩ : ByteArray) (16 - (t379.size : Int)) t380 _ A3.out).mono ?_); rintro e w6 ⟨rfl, hb⟩; refine ⟨_, rfl, ?_⟩; replace HB := bN bz hb; (try clear hb); (try clear hb2); (try clear hk); (try clear hi)))
  go_ret
  exact ⟨ez, bz⟩
 ·replace H := hN H c4
  exact absurd H (by simp)
end Go.Proofs.YtecpgdfnamkfdaaGreatDoor.Fn
end
section
namespace Go.Proofs.YtecpgdfnamkfdaaGreatDoor.Fn
open Go.RowKit Go.Proofs.YtecpgdfnamkfdaaGreatDoorW.PrintWords Go.Proofs.YtecpgdfnamkfdaaGreatDoorW.PrintLast Go.Proofs.YtecpgdfnamkfdaaGreatDoorW.PrintMore
attribute [local go_sem] fnW_0 fnW_1 fnW_2 fnW_3 fnW_4 fnW_5 fnW_guard fnW_eql max2_int min2_int max_two min_two
set_option linter.unusedVariables false
set_option linter.unusedSimpArgs false
def buf_Fill.f (a0 : Int) (a1 : Int) : Option (ByteArray) := (strings_Repeat.f (strOfNums (([a0] : List Int))) (mx 0 (mn a1 1000))).bind fun t443 => (some t443)
set_option maxHeartbeats 8000000 in
set_option maxRecDepth 100000 in
theorem buf_Fill.calls (a0 : Int) (a1 : Int) (r : ByteArray) (w : World) (h : buf_Fill.f a0 a1 = some r) :
  Calls Tryz.prog 27 #[.int .u8 a0, .int .i64 a1] w fun e w' => e = .returned (.string r) ∧ Below w.heap.size w w' := by
 have HB := Aside0.mk (Below.refl w.heap.size w)
 have H : ((strings_Repeat.f (strOfNums (([a0] : List Int))) (mx 0 (mn a1 1000))).bind fun t443 => (some t443)) = some r := h
 clear h
 obtain ⟨y440, hy440⟩ : ∃ y_ : List Int, y_ = (([a0] : List Int)) := ⟨_, rfl⟩
 replace H : ((strings_Repeat.f (strOfNums y440) (mx 0 (mn a1 1000))).bind fun t443 => (some t443)) = some r := by first | (rw [hy440]; with_reducible exact H) | (have H2_ := (Option.bind_some _ _).symm.trans H; rw [hy440]; with_reducible exact H2_) | (have H2_ := (Option.bind_some _ _).symm.trans H; with_reducible exact H2_) | with_reducible exact H | (rw [hy440]; exact H) | exact H
 have Ny440 := Aside0.mk hy440
 clear hy440
 obtain ⟨ji3, hji3⟩ : ∃ j_ : Int, (mn a1 1000) = j_ := ⟨_, rfl⟩
 (first | rw [hji3] at H | simp only [hji3] at H)
 (try (have hji3h : ji3 ≤ 1000 := by (rw [← hji3]; unfold mn; (repeat' split) <;> omega)))
 (try (have hji3g : ji3 ≤ 64 := by omega))
 have hji3_ : (if 1000 < a1 then 1000 else a1) = ji3 := hji3
 obtain ⟨ji4, hji4⟩ : ∃ j_ : Int, (mx 0 (ji3)) = j_ := ⟨_, rfl⟩
 (first | rw [hji4] at H | simp only [hji4] at H)
 have hji4_ : (if 0 < (ji3) then (ji3) else 0) = ji4 := hji4
 replace H := bs H
 obtain ⟨t443, A5, H⟩ := H
 obtain rfl := Option.some.inj H
 go_enter Tryz.func27, Tryz.ntmps27
 go_wp2_with (first | ((with_reducible refine gate_dst (N := 6) rfl ?_); refine Kd.R_lit (Kd.int .u8) _ 5 ?hg (N := 6) ?hd (xs := ([a0] : List Int)) (inner := [.int .u8 a0]) (ok := fun _ => True) (okp := fun _ => True) ?hr ?hp (fun _ hk => hk) trivial (Below.refl _ _) (Nat.le_refl _) (by simp) ?_; (case hd => rfl); (case hg => rfl); (case hr => first | (go_simp; done) | (go_simp; rfl)); (case hp => exact (Reps.one (show Kd.M (Kd.int .u8) _ _ _ a0 [.int .u8 a0] from rfl) (Reps.none _ _))); intro v441 w6 ho7 hb hg_ hnew_; clear hg_ hnew_; (first | rw [← Ny440.out] at ho7 | (simp only [Int.reduceToNat] at ho7; rw [← Ny440.out] at ho7)); have n0_ := Aside0.mk (Kd.R_lower ho7 (below_size bz)); have n1_ := Aside0.mk (below_step bz hb); clear HB; have HO442 := n0_; have HB := n1_; clear n0_ n1_; clear hb ho7; have hcv8 := own_string (P := Tryz.prog) Tryz.underlying51 Tryz.underlying5 Tryz.underlying9 (Kd.own_of_R HO442.out)) | ((with_reducible refine gate_callee (f := 46) rfl ?_); refine goesL_ (some 11) rfl rfl Tryz.func46 (by kernel_rfl) rfl #[.string (strOfNums y440), .int .i64 ji4] rfl (by (try simp only [List.map_toArray, List.map_cons, List.map_nil]); first | done | (simp only [hji4]; rfl) | rfl | (simp only [List.length_drop, List.length_take]; rfl)) ?_; (with_reducible refine (strings_Repeat.calls (strOfNums y440) ji4 t443 _ A5.out).mono ?_); rintro e w9 ⟨rfl, hb⟩; refine ⟨_, rfl, ?_⟩; have n0_ := Aside0.mk (Kd.R_below (by (with_reducible repeat (first | apply Kd.R_alloc | apply Kd.R_drewN | apply Kd.R_drew)); exact HO442.out) hb); have n1_ := Aside0.mk (below_step bz hb); clear HO442; clear HB; have HO442 := n0_; have HB := n1_; clear n0_ n1_; (try clear hb); (try clear hb2); (try clear hk); (try clear hi)))
 go_ret
 exact ⟨by first | rfl | (simp [errW_none, errW_some] <;> rfl) | (simp only [← hji3, ← hji4]; first | rfl | (simp [errW_none, errW_some] <;> rfl)) | (simp [*, errW_none, errW_some] <;> rfl), bz⟩
end Go.Proofs.YtecpgdfnamkfdaaGreatDoor.Fn
end
section
namespace Go.Proofs.YtecpgdfnamkfdaaGreatDoor.Fn
open Go.RowKit Go.Proofs.YtecpgdfnamkfdaaGreatDoorW.PrintWords
set_option linter.unusedVariables false
def buf_Count.f (s : ByteArray) : Option Int := if s.size ≤ 1000000 ∧ s.data.toList.all (fun b => b.toNat < 128) = true then some (s.size : Int) else none
theorem iter_below (w : World) (s : ByteArray) (pos : Nat) : Below w.heap.size w (w.iter s pos) := (Below.refl _ _).alloc (Nat.le_refl _) _
set_option maxHeartbeats 4000000 in
theorem buf_Count.calls (a0 : ByteArray) (r : Int) (w : World) (h : buf_Count.f a0 = some r) :
    Calls Tryz.prog 71 #[.string a0] w fun e w' => e = .returned (.int .i64 r) ∧ Below w.heap.size w w' := by
  unfold buf_Count.f at h
  split at h
  case isFalse => cases h
  rename_i hc
  obtain rfl := Option.some.inj h
  clear h
  have hn := hc.1
  have HA := Aside0.mk hc.2
  clear hc
  have hu9 := Tryz.underlying9
  go_enter Tryz.func71, Tryz.ntmps71
  go_wp2
  go_loopw [3] (fun n wr => ∃ k : Nat, k ≤ a0.size ∧ n = .int .i64 k ∧ wr = w.iter a0 k) (fun n _ => a0.size - (intOf n).toNat)
  case atStart => exact ⟨0, Nat.zero_le _, rfl, rfl⟩
  case round =>
    obtain ⟨k, hk, rfl, rfl⟩ := hrel
    by_cases hlt : k < a0.size
    · have ha : (a0[k]'hlt).toNat < 128 := by
        have := List.all_eq_true.1 HA.out (a0[k]'hlt) (by show a0.data[k] ∈ a0.data.toList; exact Array.getElem_mem_toList _)
        simpa using this
      have hnx := fun ty => run_next_ascii (P := Tryz.prog) w a0 k ty hlt ha
      go_wp2
      go_roundw
      case rel => exact ⟨k + 1, by omega, by go_num, rfl⟩
      case measure => simp [intOf]; omega
    · obtain rfl : k = a0.size := by omega
      have hnx := fun ty => run_next_end (P := Tryz.prog) w a0 a0.size ty (Nat.lt_irrefl _)
      go_wp2
      go_ret
      exact ⟨rfl, iter_below w a0 _⟩
end Go.Proofs.YtecpgdfnamkfdaaGreatDoor.Fn
end
section
namespace Go.Proofs.YtecpgdfnamkfdaaGreatDoor.Fn
open Go.RowKit Go.Proofs.YtecpgdfnamkfdaaGreatDoorW.PrintWords Go.Proofs.YtecpgdfnamkfdaaGreatDoorW.PrintLast Go.Proofs.YtecpgdfnamkfdaaGreatDoorW.PrintMore
attribute [local go_sem] fnW_0 fnW_1 fnW_2 fnW_3 fnW_4 fnW_5 fnW_guard fnW_eql max2_int min2_int max_two min_two
set_option linter.unusedVariables false
set_option linter.unusedSimpArgs false
def buf_Pad.f (a0 : ByteArray) (a1_0 : Bool) (a1_1 : Bool) (a1_2 : Bool) (a1_3 : Bool) (a1_4 : Bool) (a1_5 : Int) (a1_6 : Int) (a1_7 : Int) : Option (ByteArray) := (buf_Count.f a0).bind fun t445 => (if (wrap64 ((mx 0 (mn a1_5 1000)) - t445)) ≤ 0 then (some a0) else (if a1_1 = true then ((buf_Fill.f 32 (wrap64 ((mx 0 (mn a1_5 1000)) - t445))).bind fun t446 => (if a0.size + t446.size ≤ 9223372036854775807 then (some (a0 ++ t446)) else (none))) else (if a1_4 = true then ((buf_Fill.f 48 (wrap64 ((mx 0 (mn a1_5 1000)) - t445))).bind fun t447 => (if t447.size + a0.size ≤ 9223372036854775807 then (some (t447 ++ a0)) else (none))) else ((buf_Fill.f 32 (wrap64 ((mx 0 (mn a1_5 1000)) - t445))).bind fun t448 => (if t448.size + a0.size ≤ 9223372036854775807 then (some (t448 ++ a0)) else (none))))))
def buf_Pad.T1 : Bool × List (List Nat × List Nat) := (true, [([], []), ([0], [0]), ([1], [1]), ([2], [2]), ([], []), ([4], [4]), ([3, 5], [3, 5]), ([6, 5, 0, 1, 2, 3, 4, 5, 6], [6])])
def buf_Pad.B1 : List Nat := [0, 1, 3, 7, 0, 16, 63, 127]
theorem buf_Pad.tab1 : rtab .any (opsOf Tryz.f45 1) = buf_Pad.T1 := by kernel_rfl
theorem buf_Pad.bits1 : waitsOk buf_Pad.T1.2 buf_Pad.B1 = true := by kernel_rfl
set_option maxHeartbeats 8000000 in
set_option maxRecDepth 100000 in
theorem buf_Pad.calls (a0 : ByteArray) (a1_0 : Bool) (a1_1 : Bool) (a1_2 : Bool) (a1_3 : Bool) (a1_4 : Bool) (a1_5 : Int) (a1_6 : Int) (a1_7 : Int) (r : ByteArray) (w : World) (h : buf_Pad.f a0 a1_0 a1_1 a1_2 a1_3 a1_4 a1_5 a1_6 a1_7 = some r) :
  Calls Tryz.prog 45 #[.string a0, .agg #[.bool a1_0, .bool a1_1, .bool a1_2, .bool a1_3, .bool a1_4, .int .i64 a1_5, .int .i64 a1_6, .int .i32 a1_7]] w fun e w' => e = .returned (.string r) ∧ Below w.heap.size w w' := by
 have hu26 := Tryz.underlying26
 have HB := Aside0.mk (Below.refl w.heap.size w)
 have H : ((buf_Count.f a0).bind fun t445 => (if (wrap64 ((mx 0 (mn a1_5 1000)) - t445)) ≤ 0 then (some a0) else (if a1_1 = true then ((buf_Fill.f 32 (wrap64 ((mx 0 (mn a1_5 1000)) - t445))).bind fun t446 => (if a0.size + t446.size ≤ 9223372036854775807 then (some (a0 ++ t446)) else (none))) else (if a1_4 = true then ((buf_Fill.f 48 (wrap64 ((mx 0 (mn a1_5 1000)) - t445))).bind fun t447 => (if t447.size + a0.size ≤ 9223372036854775807 then (some (t447 ++ a0)) else (none))) else ((buf_Fill.f 32 (wrap64 ((mx 0 (mn a1_5 1000)) - t445))).bind fun t448 => (if t448.size + a0.size ≤ 9223372036854775807 then (some (t448 ++ a0)) else (none))))))) = some r := h
 clear h
 obtain ⟨ji3, hji3⟩ : ∃ j_ : Int, (mn a1_5 1000) = j_ := ⟨_, rfl⟩
 (first | rw [hji3] at H | simp only [hji3] at H)
 (try (have hji3h : ji3 ≤ 1000 := by (rw [← hji3]; unfold mn; (repeat' split) <;> omega)))
 (try (have hji3g : ji3 ≤ 64 := by omega))
 have hji3_ : (if 1000 < a1_5 then 1000 else a1_5) = ji3 := hji3
 obtain ⟨ji4, hji4⟩ : ∃ j_ : Int, (mx 0 (ji3)) = j_ := ⟨_, rfl⟩
 (first | rw [hji4] at H | simp only [hji4] at H)
 have hji4_ : (if 0 < (ji3) then (ji3) else 0) = ji4 := hji4
 replace H := bs H
 obtain ⟨t445, A5, H⟩ := H
 go_enter Tryz.func45, Tryz.ntmps45
 try go_wp2_with (first | ((with_reducible refine gate_dst (N := 3) rfl ?_); refine box_event rfl (N := 3) rfl (cs := #[.bool a1_0, .bool a1_1, .bool a1_2, .bool a1_3, .bool a1_4, .int .i64 a1_5, .int .i64 a1_6, .int .i32 a1_7]) (t := 26) gz ?_; intro gb444 hg w6 hbox hb; have GE444 := gN bz hg; have BK444 := Aside0.mk hbox; replace HB := bN bz hb; clear hb hbox hg))
 replace BK444 := Aside0.mk (blk_drew BK444.out)
 replace HB := Aside0.mk (below_drew1 HB.out)
 refine start_ (n := 8) (S := fun w' => w'.cell? ⟨gb444, 0, none⟩ = some (.bool a1_0) ∧ w'.cell? ⟨gb444, 1, none⟩ = some (.bool a1_1) ∧ w'.cell? ⟨gb444, 2, none⟩ = some (.bool a1_2) ∧ w'.cell? ⟨gb444, 3, none⟩ = some (.bool a1_3) ∧ w'.cell? ⟨gb444, 4, none⟩ = some (.bool a1_4) ∧ w'.cell? ⟨gb444, 5, none⟩ = some (.int .i64 a1_5) ∧ w'.cell? ⟨gb444, 6, none⟩ = some (.int .i64 a1_6) ∧ w'.cell? ⟨gb444, 7, none⟩ = some (.int .i32 a1_7)) (ds := []) #[false, false, false, false, false, false, false, false] (by kernel_rfl) rfl rfl ⟨(blk_cell BK444.out 0).trans rfl, (blk_cell BK444.out 1).trans rfl, (blk_cell BK444.out 2).trans rfl, (blk_cell BK444.out 3).trans rfl, (blk_cell BK444.out 4).trans rfl, (blk_cell BK444.out 5).trans rfl, (blk_cell BK444.out 6).trans rfl, (blk_cell BK444.out 7).trans rfl⟩ (fun hHeld => ?_); refine with_tabW buf_Pad.tab1 buf_Pad.bits1 (fun HT_ HW_ => ?_)
 generalize w6.drew = w7 at BK444 HB hHeld ⊢
 refine pure_ (i := 0) (N := some 6) (v := ?_) (a' := ?_) #[true, false, false, false, false, false, false, false] rfl rfl (any_of HT_.out (by kernel_rfl)) (fun _ _ _ h => h) (Or.inl ⟨by rfl, ?_⟩) ?_ ?_
 rotate_left
 ·intro w'
  go_simp
  with_reducible rfl
 rotate_left
 ·simp only [Act.put, List.setIfInBounds_toArray, List.set_cons_zero, List.set_cons_succ, i64_w, i32_w]
  rfl
 refine pure_ (i := 4) (N := some 10) (v := ?_) (a' := ?_) #[true, false, false, false, true, false, false, false] rfl rfl (any_of HT_.out (by kernel_rfl)) (fun _ _ _ h => h) (Or.inl ⟨by rfl, ?_⟩) ?_ ?_
 rotate_left
 ·intro w'
  go_simp
  with_reducible rfl
 rotate_left
 ·simp only [Act.put, List.setIfInBounds_toArray, List.set_cons_zero, List.set_cons_succ, i64_w, i32_w]
  rfl
 refine take_ (i := 1) (N := some 7) (v := ?_) (a' := ?_) #[true, true, false, false, true, false, false, false] rfl rfl (take_ofW HT_.out HW_.out (by kernel_rfl)) (fun _ _ _ h => h) (Or.inl ⟨by rfl, ?_⟩) hHeld ?_ ?_
 rotate_left
 ·rintro w' ⟨s0, s1, s2, s3, s4, s5, s6, s7⟩
  go_simp
  with_reducible rfl
 rotate_left
 ·simp only [Act.put, List.setIfInBounds_toArray, List.set_cons_zero, List.set_cons_succ, i64_w, i32_w]
  rfl
 refine pure_ (i := 2) (N := some 8) (v := ?_) (a' := ?_) #[true, true, true, false, true, false, false, false] rfl rfl (any_of HT_.out (by kernel_rfl)) (fun _ _ _ h => h) (Or.inl ⟨by rfl, ?_⟩) ?_ ?_
 rotate_left
 ·intro w'
  go_simp
  with_reducible rfl
 rotate_left
 ·simp only [Act.put, List.setIfInBounds_toArray, List.set_cons_zero, List.set_cons_succ, i64_w, i32_w]
  rfl
 refine pure_ (i := 3) (N := some 9) (v := ?_) (a' := ?_) #[true, true, true, true, true, false, false, false] rfl rfl (any_of HT_.out (by kernel_rfl)) (fun _ _ _ h => h) (Or.inl ⟨by rfl, ?_⟩) ?_ ?_
 rotate_left
 ·intro w'
  go_simp
  with_reducible rfl
 rotate_left
 ·simp only [Act.put, List.setIfInBounds_toArray, List.set_cons_zero, List.set_cons_succ, i64_w, i32_w]
  rfl
 refine one_ (i := 5) (N := some 11) #[true, true, true, true, true, true, false, false] rfl rfl (one_of HT_.out (by kernel_rfl)) (by decide) (fun K hK => ?_)
 refine goes_ Tryz.func71 (by kernel_rfl) rfl #[.string a0] (by rfl) rfl rfl lz ?_
 with_reducible refine (buf_Count.calls a0 t445 _ A5.out).mono ?_
 rintro e w8 ⟨rfl, hb⟩
 refine ⟨_, rfl, ?_⟩
 replace BK444 := Aside0.mk (blk_below (g := gb444) (o := .cells #[.bool a1_0, .bool a1_1, .bool a1_2, .bool a1_3, .bool a1_4, .int .i64 a1_5, .int .i64 a1_6, .int .i32 a1_7] 26 (0, 0)) bk hb)
 replace HB := Aside0.mk (below_step bz hb)
 (try clear hb)
 (try clear hb2)
 (try clear hk)
 (try clear hi)
 refine hK.out _ _ ⟨(blk_cell BK444.out 0).trans rfl, (blk_cell BK444.out 1).trans rfl, (blk_cell BK444.out 2).trans rfl, (blk_cell BK444.out 3).trans rfl, (blk_cell BK444.out 4).trans rfl, (blk_cell BK444.out 5).trans rfl, (blk_cell BK444.out 6).trans rfl, (blk_cell BK444.out 7).trans rfl⟩ (fun hHeld => ?_)
 clear hK K
 refine norm_ (a' := ?_) ?_ ?_
 rotate_left
 ·show Act.put _ (some 11) _ = _
  simp only [Act.put, List.setIfInBounds_toArray, List.set_cons_zero, List.set_cons_succ, i64_w, i32_w]
  rfl
 refine pure_ (i := 6) (N := some 12) (v := ?_) (a' := ?_) #[true, true, true, true, true, true, true, false] rfl rfl (any_of HT_.out (by kernel_rfl)) (fun _ _ _ h => h) (Or.inl ⟨by rfl, ?_⟩) ?_ ?_
 rotate_left
 ·intro w'
  go_simp
  with_reducible rfl
 rotate_left
 ·simp only [Act.put, List.setIfInBounds_toArray, List.set_cons_zero, List.set_cons_succ, i64_w, i32_w]
  rfl
 refine pure_ (i := 7) (N := some 5) (v := ?_) (a' := ?_) #[true, true, true, true, true, true, true, true] rfl rfl (any_of HT_.out (by kernel_rfl)) (fun _ _ _ h => h) (Or.inl ⟨by rfl, ?_⟩) ?_ ?_
 rotate_left
 ·intro w'
  go_simp
  with_reducible rfl
 rotate_left
 ·simp only [Act.put, List.setIfInBounds_toArray, List.set_cons_zero, List.set_cons_succ, i64_w, i32_w]
  rfl
 refine done_ (done_of HT_.out (by kernel_rfl)) ?_
 go_upto_if 13 with (fail)
 by_cases c9 : (wrap64 ((ji4) - t445)) ≤ 0
 ·replace H := hE H c9
  have c9b0 := decide_eq_true c9
  clear c9
  (first | rw [c9b0] | (simp only [i64_w, i32_w]; rw [c9b0]) | skip)
  obtain rfl := Option.some.inj H
  go_wp2
  go_ret
  exact ⟨by first | rfl | (simp [errW_none, errW_some] <;> rfl) | (simp only [← hji3, ← hji4]; first | rfl | (simp [errW_none, errW_some] <;> rfl)) | (simp [*, errW_none, errW_some] <;> rfl), bz⟩
 ·replace H := hN H c9
  have c9b0 := decide_eq_false c9
  clear c9
  (first | rw [c9b0] | (simp only [i64_w, i32_w]; rw [c9b0]) | skip)
  by_cases c10 : a1_1 = true
  ·subst c10
   replace H := hT H
   replace H := bs H
   obtain ⟨t446, A11, H⟩ := H
   by_cases c12 : a0.size + t446.size ≤ 9223372036854775807
   ·replace H := hE H c12
    have c12b0 := eq_true c12
    have c12b1 : decide (a0.size + t446.size ≤ 9223372036854775807) = true := decide_eq_true c12
    try have c12b2 : (9223372036854775807 < a0.size + t446.size) = False := eq_false (Nat.not_lt.2 c12)
    obtain rfl := Option.some.inj H
    obtain ⟨hcz13_0, hcz13_1, hcz13_2, hcz13_3, hcz13_4, hcz13_5, hcz13_6, hcz13_7, hfz13_0, hfz13_1, hfz13_2, hfz13_3, hfz13_4, hfz13_5, hfz13_6, hfz13_7⟩ := cz8 (W := w8) BK444
    go_wp2_with (first | ((with_reducible refine gate_callee (f := 27) rfl ?_); refine goesL_ (some 22) rfl rfl Tryz.func27 (by kernel_rfl) rfl #[.int .u8 32, .int .i64 (wrap64 ((ji4) - t445))] rfl (by (try simp only [List.map_toArray, List.map_cons, List.map_nil]); first | done | (simp only [hji4]; rfl) | rfl | (simp only [List.length_drop, List.length_take]; rfl)) ?_; (with_reducible refine (buf_Fill.calls 32 (wrap64 ((ji4) - t445)) t446 _ A11.out).mono ?_); rintro e w14 ⟨rfl, hb⟩; refine ⟨_, rfl, ?_⟩; replace BK444 := kN (g := gb444) (cs := #[.bool a1_0, .bool true, .bool a1_2, .bool a1_3, .bool a1_4, .int .i64 a1_5, .int .i64 a1_6, .int .i32 a1_7]) hb bk; replace HB := bN bz hb; (try clear hb); (try clear hb2); (try clear hk); (try clear hi)))
    go_ret
    exact ⟨by first | rfl | (simp [errW_none, errW_some] <;> rfl) | (simp only [← hji3, ← hji4]; first | rfl | (simp [errW_none, errW_some] <;> rfl)) | (simp [*, errW_none, errW_some] <;> rfl), bz⟩
   ·replace H := hN H c12
    exact absurd H (by simp)
  ·replace c10 := Bool.eq_false_iff.mpr c10
   subst c10
   replace H := hF H
   by_cases c15 : a1_4 = true
   ·subst c15
    replace H := hT H
    replace H := bs H
    obtain ⟨t447, A16, H⟩ := H
    by_cases c17 : t447.size + a0.size ≤ 9223372036854775807
    ·replace H := hE H c17
     have c17b0 := eq_true c17
     have c17b1 : decide (t447.size + a0.size ≤ 9223372036854775807) = true := decide_eq_true c17
     try have c17b2 : (9223372036854775807 < t447.size + a0.size) = False := eq_false (Nat.not_lt.2 c17)
     obtain rfl := Option.some.inj H
     obtain ⟨hcz18_0, hcz18_1, hcz18_2, hcz18_3, hcz18_4, hcz18_5, hcz18_6, hcz18_7, hfz18_0, hfz18_1, hfz18_2, hfz18_3, hfz18_4, hfz18_5, hfz18_6, hfz18_7⟩ := cz8 (W := w8) BK444
     go_wp2_with (first | ((with_reducible refine gate_callee (f := 27) rfl ?_); refine goesL_ (some 28) rfl rfl Tryz.func27 (by kernel_rfl) rfl #[.int .u8 48, .int .i64 (wrap64 ((ji4) - t445))] rfl (by (try simp only [List.map_toArray, List.map_cons, List.map_nil]); first | done | (simp only [hji4]; rfl) | rfl | (simp only [List.length_drop, List.length_take]; rfl)) ?_; (with_reducible refine (buf_Fill.calls 48 (wrap64 ((ji4) - t445)) t447 _ A16.out).mono ?_); rintro e w19 ⟨rfl, hb⟩; refine ⟨_, rfl, ?_⟩; replace BK444 := kN (g := gb444) (cs := #[.bool a1_0, .bool false, .bool a1_2, .bool a1_3, .bool true, .int .i64 a1_5, .int .i64 a1_6, .int .i32 a1_7]) hb bk; replace HB := bN bz hb; (try clear hb); (try clear hb2); (try clear hk); (try clear hi)))
     go_ret
     exact ⟨by first | rfl | (simp [errW_none, errW_some] <;> rfl) | (simp only [← hji3, ← hji4]; first | rfl | (simp [errW_none, errW_some] <;> rfl)) | (simp [*, errW_none, errW_some] <;> rfl), bz⟩
    ·replace H := hN H c17
     exact absurd H (by simp)
   ·replace c15 := Bool.eq_false_iff.mpr c15
    subst c15
    replace H := hF H
    replace H := bs H
    obtain ⟨t448, A20, H⟩ := H
    by_cases c21 : t448.size + a0.size ≤ 9223372036854775807
    ·replace H := hE H c21
     have c21b0 := eq_true c21
     have c21b1 : decide (t448.size + a0.size ≤ 9223372036854775807) = true := decide_eq_true c21
     try have c21b2 : (9223372036854775807 < t448.size + a0.size) = False := eq_false (Nat.not_lt.2 c21)
     obtain rfl := Option.some.inj H
     obtain ⟨hcz22_0, hcz22_1, hcz22_2, hcz22_3, hcz22_4, hcz22_5, hcz22_6, hcz22_7, hfz22_0, hfz22_1, hfz22_2, hfz22_3, hfz22_4, hfz22_5, hfz22_6, hfz22_7⟩ := cz8 (W := w8) BK444
     go_wp2_with (first | ((with_reducible refine gate_callee (f := 27) rfl ?_); refine goesL_ (some 32) rfl rfl Tryz.func27 (by kernel_rfl) rfl #[.int .u8 32, .int .i64 (wrap64 ((ji4) - t445))] rfl (by (try simp only [List.map_toArray, List.map_cons, List.map_nil]); first | done | (simp only [hji4]; rfl) | rfl | (simp only [List.length_drop, List.length_take]; rfl)) ?_; (with_reducible refine (buf_Fill.calls 32 (wrap64 ((ji4) - t445)) t448 _ A20.out).mono ?_); rintro e w23 ⟨rfl, hb⟩; refine ⟨_, rfl, ?_⟩; replace BK444 := kN (g := gb444) (cs := #[.bool a1_0, .bool false, .bool a1_2, .bool a1_3, .bool false, .int .i64 a1_5, .int .i64 a1_6, .int .i32 a1_7]) hb bk; replace HB := bN bz hb; (try clear hb); (try clear hb2); (try clear hk); (try clear hi)))
     go_ret
     exact ⟨by first | rfl | (simp [errW_none, errW_some] <;> rfl) | (simp only [← hji3, ← hji4]; first | rfl | (simp [errW_none, errW_some] <;> rfl)) | (simp [*, errW_none, errW_some] <;> rfl), bz⟩
    ·replace H := hN H c21
     exact absurd H (by simp)
end Go.Proofs.YtecpgdfnamkfdaaGreatDoor.Fn
end
section
namespace Go.Proofs.YtecpgdfnamkfdaaGreatDoor.Pure
set_option linter.unusedVariables false
def fM (f p : Nat) : Nat := if p / 2 ^ f = 0 then p % 2 ^ f else p % 2 ^ f + 2 ^ f
def fE (f p : Nat) : Nat := p / 2 ^ f - 1
def fW (f p : Nat) : Nat := fM f p * 2 ^ fE f p
theorem two_pos (n : Nat) : 0 < 2 ^ n := Nat.pow_pos (by omega)
theorem fM_lt (f p : Nat) : fM f p < 2 ^ (f + 1) := by
  have h := Nat.mod_lt p (two_pos f)
  unfold fM
  rw [Nat.pow_succ]
  split <;> omega
theorem fParts (f k m : Nat) (h1 : m < 2 ^ (f + 1)) (h2 : 2 ^ f ≤ m ∨ k = 0) : fM f (k * 2 ^ f + m) = m ∧ fE f (k * 2 ^ f + m) = k := by
  have hp := two_pos f
  rw [Nat.pow_succ] at h1
  unfold fM fE
  by_cases c : 2 ^ f ≤ m
  · have e : k * 2 ^ f + m = (m - 2 ^ f) + 2 ^ f * (k + 1) := by rw [Nat.mul_add, Nat.mul_one, Nat.mul_comm (2 ^ f) k]; omega
    rw [e, Nat.add_mul_div_left _ _ hp, Nat.add_mul_mod_self_left, Nat.div_eq_of_lt (by omega), Nat.mod_eq_of_lt (by omega)]
    rw [if_neg (by omega)]
    omega
  · have hk : k = 0 := h2.resolve_left c
    subst hk
    rw [Nat.zero_mul, Nat.zero_add, Nat.div_eq_of_lt (by omega), Nat.mod_eq_of_lt (by omega), if_pos rfl]
    exact ⟨rfl, rfl⟩
theorem fOf (f p : Nat) : p = fE f p * 2 ^ f + fM f p ∧ (2 ^ f ≤ fM f p ∨ fE f p = 0) := by
  have hp := two_pos f
  have hd := Nat.div_add_mod p (2 ^ f)
  unfold fM fE
  by_cases c : p / 2 ^ f = 0
  · rw [if_pos c, c, Nat.zero_sub, Nat.zero_mul, Nat.zero_add]
    rw [c, Nat.mul_zero, Nat.zero_add] at hd
    exact ⟨hd.symm, .inr rfl⟩
  · rw [if_neg c]
    obtain ⟨j, hj⟩ := Nat.exists_eq_succ_of_ne_zero c
    rw [Nat.succ_eq_add_one] at hj
    rw [hj] at hd ⊢
    rw [Nat.mul_add, Nat.mul_one, Nat.mul_comm (2 ^ f) j] at hd
    rw [Nat.add_sub_cancel]
    omega
theorem fW_at {f k m : Nat} (h1 : m ≤ 2 ^ (f + 1)) (h2 : 2 ^ f ≤ m ∨ k = 0) : fW f (k * 2 ^ f + m) = m * 2 ^ k := by
  by_cases c : m < 2 ^ (f + 1)
  · obtain ⟨e1, e2⟩ := fParts f k m c h2
    unfold fW
    rw [e1, e2]
  · have hm : m = 2 ^ (f + 1) := by omega
    have e : k * 2 ^ f + m = (k + 1) * 2 ^ f + 2 ^ f := by rw [hm, Nat.pow_succ, Nat.add_mul]; omega
    obtain ⟨e1, e2⟩ := fParts f (k + 1) (2 ^ f) (by rw [Nat.pow_succ]; have := two_pos f; omega) (.inl (Nat.le_refl _))
    unfold fW
    rw [e, e1, e2, hm, Nat.pow_succ, Nat.pow_succ, Nat.mul_assoc, Nat.mul_comm 2]
theorem fW_step (f p : Nat) : fW f (p + 1) = fW f p + 2 ^ fE f p := by
  obtain ⟨e1, e2⟩ := fOf f p
  have hlt := fM_lt f p
  have e3 : p + 1 = fE f p * 2 ^ f + (fM f p + 1) := by omega
  rw [e3, fW_at (by omega) (e2.imp (fun h => by omega) id)]
  unfold fW
  rw [Nat.add_mul, Nat.one_mul]
theorem fW_lt {f p q : Nat} (h : p < q) : fW f p < fW f q := by
  obtain ⟨d, rfl⟩ : ∃ d, q = p + 1 + d := ⟨q - (p + 1), by omega⟩
  clear h
  induction d with
  | zero => rw [Nat.add_zero, fW_step]; have := two_pos (fE f p); omega
  | succ d ih => rw [← Nat.add_assoc, fW_step]; have := two_pos (fE f (p + 1 + d)); omega
theorem fW_le {f p q : Nat} (h : p ≤ q) : fW f p ≤ fW f q := by
  rcases Nat.lt_or_eq_of_le h with h | rfl
  · exact Nat.le_of_lt (fW_lt h)
  · exact Nat.le_refl _
theorem fW_zero (f : Nat) : fW f 0 = 0 := by
  have := fW_at (f := f) (k := 0) (m := 0) (Nat.zero_le _) (.inr rfl)
  rw [Nat.zero_mul, Nat.zero_add, Nat.zero_mul] at this
  exact this
def fFloor (f inf X B p : Nat) : Prop := p ≤ inf ∧ fW f p * B ≤ X ∧ (p < inf → X < fW f (p + 1) * B)
theorem fFloor_one {f inf X B p q : Nat} (hB : 0 < B) (h1 : fFloor f inf X B p) (h2 : fFloor f inf X B q) : p = q := by
  obtain ⟨a1, a2, a3⟩ := h1
  obtain ⟨b1, b2, b3⟩ := h2
  have key : ∀ p q : Nat, p < q → q ≤ inf → fW f q * B ≤ X → (p < inf → X < fW f (p + 1) * B) → False := by
    intro p q hpq hq h1 h2
    have h3 := h2 (by omega)
    have h4 : fW f (p + 1) * B ≤ fW f q * B := Nat.mul_le_mul_right _ (fW_le hpq)
    omega
  rcases Nat.lt_trichotomy p q with h | h | h
  · exact (key p q h b1 b2 a3).elim
  · exact h
  · exact (key q p h a1 a2 b3).elim
def fUp (f X B p : Nat) : Prop := (fW f p + fW f (p + 1)) * B < 2 * X ∨ ((fW f p + fW f (p + 1)) * B = 2 * X ∧ p % 2 = 1)
instance (f X B p : Nat) : Decidable (fUp f X B p) := by unfold fUp; infer_instance
def fNear (f inf X B p : Nat) : Nat := if p = inf then inf else if fUp f X B p then p + 1 else p
def fFind (f X B : Nat) : Nat → Nat → Nat
  | 0, lo => lo
  | n + 1, lo => if fW f (lo + 2 ^ n) * B ≤ X then fFind f X B n (lo + 2 ^ n) else fFind f X B n lo
theorem fFind_spec (f X B : Nat) : ∀ n lo, fW f lo * B ≤ X → fW f (fFind f X B n lo) * B ≤ X ∧ (X < fW f (lo + 2 ^ n) * B → X < fW f (fFind f X B n lo + 1) * B) ∧ lo ≤ fFind f X B n lo ∧ fFind f X B n lo < lo + 2 ^ n
  | 0, lo, h => ⟨h, fun h => h, Nat.le_refl _, by simp [fFind]⟩
  | n + 1, lo, h => by
    unfold fFind
    have hp := two_pos n
    by_cases c : fW f (lo + 2 ^ n) * B ≤ X
    · rw [if_pos c]
      obtain ⟨a, b, d, e⟩ := fFind_spec f X B n (lo + 2 ^ n) c
      refine ⟨a, fun h2 => b ?_, by omega, by rw [Nat.pow_succ]; omega⟩
      rw [show lo + 2 ^ n + 2 ^ n = lo + 2 ^ (n + 1) by rw [Nat.pow_succ]; omega]
      exact h2
    · rw [if_neg c]
      obtain ⟨a, b, d, e⟩ := fFind_spec f X B n lo h
      exact ⟨a, fun _ => b (by omega), d, by rw [Nat.pow_succ]; omega⟩
end Go.Proofs.YtecpgdfnamkfdaaGreatDoor.Pure
end
section
namespace Go.Proofs.YtecpgdfnamkfdaaGreatDoor.Fn
open Go.RowKit Go.Proofs.YtecpgdfnamkfdaaGreatDoorW.PrintWords Go.Proofs.YtecpgdfnamkfdaaGreatDoorW.PrintLast Go.Proofs.YtecpgdfnamkfdaaGreatDoorW.PrintMore
attribute [local go_sem] fnW_0 fnW_1 fnW_2 fnW_3 fnW_4 fnW_5 fnW_guard fnW_eql max2_int min2_int max_two min_two
set_option linter.unusedVariables false
set_option linter.unusedSimpArgs false
def short_of.f (a0 : Int) : Option (Int × Int × Int × Bool) := if a0 = 32 then (some (23, (-149), 2139095040, true)) else (if a0 = 64 then (some (52, (-1074), 9218868437227405312, true)) else (some (0, 0, 0, false)))
set_option maxHeartbeats 8000000 in
set_option maxRecDepth 100000 in
theorem short_of.calls (a0 : Int) (r1 : Int) (r2 : Int) (r3 : Int) (r4 : Bool) (w : World) (h : short_of.f a0 = some (r1, r2, r3, r4)) :
  Calls Tryz.prog 42 #[.int .i64 a0] w fun e w' => e = .returned (.tuple #[.agg #[.int .i64 r1, .int .i64 r2, .int .u64 r3], .bool r4]) ∧ Below w.heap.size w w' := by
 have hu66 := Tryz.underlying66
 have HB := Aside0.mk (Below.refl w.heap.size w)
 have H : (if a0 = 32 then (some (23, (-149), 2139095040, true)) else (if a0 = 64 then (some (52, (-1074), 9218868437227405312, true)) else (some (0, 0, 0, false)))) = some (r1, r2, r3, r4) := h
 clear h
 go_enter Tryz.func42, Tryz.ntmps42
 go_upto_if 5 with (first | ((with_reducible refine gate_dst (N := 2) rfl ?_); refine box_event rfl (N := 2) rfl (cs := #[.int .i64 0, .int .i64 0, .int .u64 0]) (t := 66) gz ?_; intro gb283 hg w2 hbox hb; have GE283 := gN bz hg; have BK283 := Aside0.mk hbox; replace HB := bN bz hb; clear hb hbox hg))
 (try simp only [Act.put, List.setIfInBounds_toArray, List.set_cons_zero, List.set_cons_succ])
 by_cases c3 : a0 = 32
 ·replace H := hE H c3
  obtain ⟨c3b0, c3b1⟩ := eT c3
  clear c3
  try first | rw [c3b0] | rw [c3b1]
  simp only [Option.some.injEq, Prod.mk.injEq] at H
  obtain ⟨rfl, rfl, rfl, rfl⟩ := H
  obtain ⟨hcz4_0, hcz4_1, hcz4_2, hfz4_0, hfz4_1, hfz4_2⟩ := cz3 (W := w2) BK283
  go_wp2
  refine bodyPost_ret (results_ct rfl _ _ gb283 66 #[.int .i64 23, .int .i64 (-149), .int .u64 2139095040] (0, 0) _ rfl bk Tryz.underlying66 rfl (by kernel_rfl)) rfl ?_
  exact ⟨ez, bz⟩
 ·replace H := hN H c3
  obtain ⟨c3b0, c3b1⟩ := eF c3
  try first | rw [c3b0] | rw [c3b1]
  by_cases c5 : a0 = 64
  ·replace H := hE H c5
   obtain ⟨c5b0, c5b1⟩ := eT c5
   clear c5
   simp only [Option.some.injEq, Prod.mk.injEq] at H
   obtain ⟨rfl, rfl, rfl, rfl⟩ := H
   obtain ⟨hcz6_0, hcz6_1, hcz6_2, hfz6_0, hfz6_1, hfz6_2⟩ := cz3 (W := w2) BK283
   go_wp2
   refine bodyPost_ret (results_ct rfl _ _ gb283 66 #[.int .i64 52, .int .i64 (-1074), .int .u64 9218868437227405312] (0, 0) _ rfl bk Tryz.underlying66 rfl (by kernel_rfl)) rfl ?_
   exact ⟨ez, bz⟩
  ·replace H := hN H c5
   obtain ⟨c5b0, c5b1⟩ := eF c5
   simp only [Option.some.injEq, Prod.mk.injEq] at H
   obtain ⟨rfl, rfl, rfl, rfl⟩ := H
   obtain ⟨hcz7_0, hcz7_1, hcz7_2, hfz7_0, hfz7_1, hfz7_2⟩ := cz3 (W := w2) BK283
   go_wp2
   refine bodyPost_ret (results_ct rfl _ _ gb283 66 #[.int .i64 0, .int .i64 0, .int .u64 0] (0, 0) _ rfl bk Tryz.underlying66 rfl (by kernel_rfl)) rfl ?_
   exact ⟨ez, bz⟩
end Go.Proofs.YtecpgdfnamkfdaaGreatDoor.Fn
end
section
namespace Go.Proofs.YtecpgdfnamkfdaaGreatDoor.Fn
open Go.RowKit Go.Proofs.YtecpgdfnamkfdaaGreatDoorW.PrintWords Go.Proofs.YtecpgdfnamkfdaaGreatDoorW.PrintLast Go.Proofs.YtecpgdfnamkfdaaGreatDoorW.PrintMore
attribute [local go_sem] fnW_0 fnW_1 fnW_2 fnW_3 fnW_4 fnW_5 fnW_guard fnW_eql max2_int min2_int max_two min_two
set_option linter.unusedVariables false
set_option linter.unusedSimpArgs false
def short_shape_value.f (a0_0 : Int) (a0_1 : Int) (a0_2 : Int) (a1 : Int) : Option (Int × Int) := if 0 ≤ a0_0 then (if (wrap64 (shr .u64 a1 a0_0)) = 0 then (some (Go.bits .and .u64 a1 (IntKind.u64.wrap ((shl .u64 1 a0_0) - 1)), a0_1)) else (some (Go.bits .or .u64 (Go.bits .and .u64 a1 (IntKind.u64.wrap ((shl .u64 1 a0_0) - 1))) (shl .u64 1 a0_0), wrap64 ((wrap64 (a0_1 + (wrap64 (shr .u64 a1 a0_0)))) - 1)))) else (none)
set_option maxHeartbeats 8000000 in
set_option maxRecDepth 100000 in
theorem short_shape_value.calls (a0_0 : Int) (a0_1 : Int) (a0_2 : Int) (a1 : Int) (r1 : Int) (r2 : Int) (w : World) (h : short_shape_value.f a0_0 a0_1 a0_2 a1 = some (r1, r2)) :
  Calls Tryz.prog 43 #[.agg #[.int .i64 a0_0, .int .i64 a0_1, .int .u64 a0_2], .int .u64 a1] w fun e w' => e = .returned (.tuple #[.int .u64 r1, .int .i64 r2]) ∧ Below w.heap.size w w' := by
 have hu66 := Tryz.underlying66
 have HB := Aside0.mk (Below.refl w.heap.size w)
 have H : (if 0 ≤ a0_0 then (if (wrap64 (shr .u64 a1 a0_0)) = 0 then (some (Go.bits .and .u64 a1 (IntKind.u64.wrap ((shl .u64 1 a0_0) - 1)), a0_1)) else (some (Go.bits .or .u64 (Go.bits .and .u64 a1 (IntKind.u64.wrap ((shl .u64 1 a0_0) - 1))) (shl .u64 1 a0_0), wrap64 ((wrap64 (a0_1 + (wrap64 (shr .u64 a1 a0_0)))) - 1)))) else (none)) = some (r1, r2) := h
 clear h
 by_cases c3 : 0 ≤ a0_0
 ·replace H := hE H c3
  have c3b0 := eq_true c3
  have c3b1 : decide (0 ≤ a0_0) = true := decide_eq_true c3
  clear c3
  obtain ⟨ji4, hji4⟩ : ∃ j_ : Int, (shr .u64 a1 a0_0) = j_ := ⟨_, rfl⟩
  (first | rw [hji4] at H | simp only [hji4] at H)
  have hji4_ : (a1 / 2 ^ min a0_0.toNat 64) = ji4 := hji4
  have hji4z : a0_0 ≤ 64 → (a1 / 2 ^ a0_0.toNat) = ji4 := shr_small hji4
  have c5b0 := eq_true (of_decide_eq_true (by first | (with_reducible assumption) | assumption) : 0 ≤ a0_0)
  obtain ⟨ji6, hji6⟩ : ∃ j_ : Int, (shl .u64 1 a0_0) = j_ := ⟨_, rfl⟩
  (first | rw [hji6] at H | simp only [hji6] at H)
  have hji6_ : (IntKind.u64.wrap (1 * 2 ^ min a0_0.toNat 64)) = ji6 := hji6
  have hji6z : a0_0 ≤ 64 → (IntKind.u64.wrap (1 * 2 ^ a0_0.toNat)) = ji6 := shl_small hji6
  have hji6u : (IntKind.u64.wrap (2 ^ min a0_0.toNat 64)) = ji6 := by have h_ := hji6_; rw [Int.one_mul] at h_; exact h_
  have hji6v : a0_0 ≤ 64 → (IntKind.u64.wrap (2 ^ a0_0.toNat)) = ji6 := fun hle_ => by have h_ := hji6z hle_; rw [Int.one_mul] at h_; exact h_
  go_enter Tryz.func43, Tryz.ntmps43
  go_upto_if 20 with (first | ((with_reducible refine gate_dst (N := 2) rfl ?_); refine box_event rfl (N := 2) rfl (cs := #[.int .i64 a0_0, .int .i64 a0_1, .int .u64 a0_2]) (t := 66) gz ?_; intro gb165 hg w7 hbox hb; have GW165 := gN bz hg; have GE165 := gN bz hg; have BK165 := Aside0.mk hbox; replace HB := bN bz hb; clear hb hbox hg; obtain ⟨hcz8_0, hcz8_1, hcz8_2, hfz8_0, hfz8_1, hfz8_2⟩ := cz3 (W := w7) BK165))
  repeat (go_quiet (first | ((with_reducible refine gate_dst (N := 2) rfl ?_); refine box_event rfl (N := 2) rfl (cs := #[.int .i64 a0_0, .int .i64 a0_1, .int .u64 a0_2]) (t := 66) gz ?_; intro gb165 hg w7 hbox hb; have n0_ := Aside0.mk (below_step bz hb); have n1_ := Aside0.mk (hbox); have n2_ := Aside0.mk ((by rw [hg]; exact (below_size bz) : w.heap.size ≤ gb165)); have n3_ := Aside0.mk ((by rw [hg]; exact (below_size bz) : w.heap.size ≤ gb165)); clear HB; have HB := n0_; have BK165 := n1_; have GW165 := n2_; have GE165 := n3_; clear n0_ n1_ n2_ n3_; clear hb hbox hg; obtain ⟨hcz8_0, hcz8_1, hcz8_2, hfz8_0, hfz8_1, hfz8_2⟩ := cz3 (W := w7) BK165)); go_upto_if 20 with (first | ((with_reducible refine gate_dst (N := 2) rfl ?_); refine box_event rfl (N := 2) rfl (cs := #[.int .i64 a0_0, .int .i64 a0_1, .int .u64 a0_2]) (t := 66) gz ?_; intro gb165 hg w7 hbox hb; have n0_ := Aside0.mk (below_step bz hb); have n1_ := Aside0.mk (hbox); have n2_ := Aside0.mk ((by rw [hg]; exact (below_size bz) : w.heap.size ≤ gb165)); have n3_ := Aside0.mk ((by rw [hg]; exact (below_size bz) : w.heap.size ≤ gb165)); clear HB; have HB := n0_; have BK165 := n1_; have GW165 := n2_; have GE165 := n3_; clear n0_ n1_ n2_ n3_; clear hb hbox hg; obtain ⟨hcz8_0, hcz8_1, hcz8_2, hfz8_0, hfz8_1, hfz8_2⟩ := cz3 (W := w7) BK165)))
  (try simp only [Act.put, List.setIfInBounds_toArray, List.set_cons_zero, List.set_cons_succ])
  by_cases c9 : (wrap64 (ji4)) = 0
  ·replace H := hE H c9
   obtain ⟨c9b0, c9b1⟩ := eT c9
   clear c9
   (first | rw [c9b0] | rw [c9b1] | (simp only [i64_w, i32_w]; rw [c9b0]) | skip)
   simp only [Option.some.injEq, Prod.mk.injEq] at H
   obtain ⟨rfl, rfl⟩ := H
   obtain ⟨hcz10_0, hcz10_1, hcz10_2, hfz10_0, hfz10_1, hfz10_2⟩ := cz3 (W := w7) BK165
   go_wp2
   repeat (go_quiet (fail); try go_wp2)
   go_ret2
   exact ⟨by first | rfl | (simp [errW_none, errW_some] <;> rfl) | (simp only [← hji4, ← hji6]; first | rfl | (simp [errW_none, errW_some] <;> rfl)) | (simp [*, errW_none, errW_some] <;> rfl), bz⟩
  ·replace H := hN H c9
   obtain ⟨c9b0, c9b1⟩ := eF c9
   (first | rw [c9b0] | rw [c9b1] | (simp only [i64_w, i32_w]; rw [c9b0]) | skip)
   have c11b0 := eq_true (of_decide_eq_true (by first | (with_reducible assumption) | assumption) : 0 ≤ a0_0)
   simp only [Option.some.injEq, Prod.mk.injEq] at H
   obtain ⟨rfl, rfl⟩ := H
   obtain ⟨hcz13_0, hcz13_1, hcz13_2, hfz13_0, hfz13_1, hfz13_2⟩ := cz3 (W := w7) BK165
   go_wp2
   repeat (go_quiet (fail); try go_wp2)
   go_ret2
   exact ⟨by first | rfl | (simp [errW_none, errW_some] <;> rfl) | (simp only [← hji4, ← hji6]; first | rfl | (simp [errW_none, errW_some] <;> rfl)) | (simp [*, errW_none, errW_some] <;> rfl), bz⟩
 ·replace H := hN H c3
  exact absurd H (by simp)
end Go.Proofs.YtecpgdfnamkfdaaGreatDoor.Fn
end
section
namespace Go.Proofs.YtecpgdfnamkfdaaGreatDoor.Fn
open Go.RowKit Go.Proofs.YtecpgdfnamkfdaaGreatDoorW.PrintWords Go.Proofs.YtecpgdfnamkfdaaGreatDoorW.PrintLast Go.Proofs.YtecpgdfnamkfdaaGreatDoorW.PrintMore
attribute [local go_sem] fnW_0 fnW_1 fnW_2 fnW_3 fnW_4 fnW_5 fnW_guard fnW_eql max2_int min2_int max_two min_two
set_option linter.unusedVariables false
set_option linter.unusedSimpArgs false
def short_Parts.f (a0 : Int) (a1 : Int) : Option (Bool × Int × Int × Int) := (short_of.f a1).bind fun bt433 => (if bt433.2.2.2 = true then (if 0 ≤ (wrap64 (a1 - 1)) then (if (Go.bits .and .u64 a0 (IntKind.u64.wrap ((shl .u64 1 (wrap64 (a1 - 1))) - 1))) = bt433.2.2.1 then (some (((Go.bits .and .u64 (shr .u64 a0 (wrap64 (a1 - 1))) 1) == 1), 0, 0, 1)) else (if (Go.bits .and .u64 a0 (IntKind.u64.wrap ((shl .u64 1 (wrap64 (a1 - 1))) - 1))) > bt433.2.2.1 then (some (((Go.bits .and .u64 (shr .u64 a0 (wrap64 (a1 - 1))) 1) == 1), 0, 0, 2)) else ((short_shape_value.f bt433.1 bt433.2.1 bt433.2.2.1 (Go.bits .and .u64 a0 (IntKind.u64.wrap ((shl .u64 1 (wrap64 (a1 - 1))) - 1)))).bind fun bt438 => (some (((Go.bits .and .u64 (shr .u64 a0 (wrap64 (a1 - 1))) 1) == 1), bt438.1, bt438.2, 0))))) else (none)) else (some (false, 0, 0, 3)))
set_option maxHeartbeats 8000000 in
set_option maxRecDepth 100000 in
theorem short_Parts.calls (a0 : Int) (a1 : Int) (r1 : Bool) (r2 : Int) (r3 : Int) (r4 : Int) (w : World) (h : short_Parts.f a0 a1 = some (r1, r2, r3, r4)) :
  Calls Tryz.prog 24 #[.int .u64 a0, .int .i64 a1] w fun e w' => e = .returned (.tuple #[.bool r1, .int .u64 r2, .int .i64 r3, .int .i64 r4]) ∧ Below w.heap.size w w' := by
 have hu66 := Tryz.underlying66
 have HB := Aside0.mk (Below.refl w.heap.size w)
 have H : ((short_of.f a1).bind fun bt433 => (if bt433.2.2.2 = true then (if 0 ≤ (wrap64 (a1 - 1)) then (if (Go.bits .and .u64 a0 (IntKind.u64.wrap ((shl .u64 1 (wrap64 (a1 - 1))) - 1))) = bt433.2.2.1 then (some (((Go.bits .and .u64 (shr .u64 a0 (wrap64 (a1 - 1))) 1) == 1), 0, 0, 1)) else (if (Go.bits .and .u64 a0 (IntKind.u64.wrap ((shl .u64 1 (wrap64 (a1 - 1))) - 1))) > bt433.2.2.1 then (some (((Go.bits .and .u64 (shr .u64 a0 (wrap64 (a1 - 1))) 1) == 1), 0, 0, 2)) else ((short_shape_value.f bt433.1 bt433.2.1 bt433.2.2.1 (Go.bits .and .u64 a0 (IntKind.u64.wrap ((shl .u64 1 (wrap64 (a1 - 1))) - 1)))).bind fun bt438 => (some (((Go.bits .and .u64 (shr .u64 a0 (wrap64 (a1 - 1))) 1) == 1), bt438.1, bt438.2, 0))))) else (none)) else (some (false, 0, 0, 3)))) = some (r1, r2, r3, r4) := h
 clear h
 replace H := bs H
 obtain ⟨⟨t433, t434, t435, t436⟩, A3, H⟩ := H
 dsimp only at H
 go_enter Tryz.func24, Tryz.ntmps24
 go_upto_if 20 with (first | ((with_reducible refine gate_callee (f := 42) rfl ?_); refine goesL_ (some 16) rfl rfl Tryz.func42 (by kernel_rfl) rfl #[.int .i64 a1] rfl lz ?_; (with_reducible refine (short_of.calls a1 t433 t434 t435 t436 _ A3.out).mono ?_); rintro e w4 ⟨rfl, hb⟩; refine ⟨_, rfl, ?_⟩; replace HB := bN bz hb; (try clear hb); (try clear hb2); (try clear hk); (try clear hi)) | ((with_reducible refine gate_dst (N := 8) rfl ?_); refine box_event rfl (N := 8) rfl (cs := #[.int .i64 0, .int .i64 0, .int .u64 0]) (t := 66) gz ?_; intro gb437 hg w5 hbox hb; have GE437 := gN bz hg; have BK437 := Aside0.mk hbox; replace HB := bN bz hb; clear hb hbox hg; obtain ⟨hcz6_0, hcz6_1, hcz6_2, hfz6_0, hfz6_1, hfz6_2⟩ := cz3 (W := w5) BK437))
 (try simp only [Act.put, List.setIfInBounds_toArray, List.set_cons_zero, List.set_cons_succ])
 by_cases c7 : t436 = true
 ·subst c7
  replace H := hT H
  obtain ⟨ji8, hji8⟩ : ∃ j_ : Int, (wrap64 (a1 - 1)) = j_ := ⟨_, rfl⟩
  (first | rw [hji8] at H | simp only [hji8] at H)
  have hji8w : (IntKind.i64.wrap (a1 - 1)) = ji8 := (i64_w _).trans hji8
  by_cases c9 : 0 ≤ (ji8)
  ·replace H := hE H c9
   have c9b0 := eq_true c9
   have c9b1 : decide (0 ≤ (ji8)) = true := decide_eq_true c9
   clear c9
   obtain ⟨ji10, hji10⟩ : ∃ j_ : Int, (shr .u64 a0 (ji8)) = j_ := ⟨_, rfl⟩
   (first | rw [hji10] at H | simp only [hji10] at H)
   have hji10_ : (a0 / 2 ^ min (ji8).toNat 64) = ji10 := hji10
   have hji10z : (ji8) ≤ 64 → (a0 / 2 ^ (ji8).toNat) = ji10 := shr_small hji10
   have c11b0 := eq_true (of_decide_eq_true (by first | (with_reducible assumption) | assumption) : 0 ≤ (ji8))
   obtain ⟨ji12, hji12⟩ : ∃ j_ : Int, (shl .u64 1 (ji8)) = j_ := ⟨_, rfl⟩
   (first | rw [hji12] at H | simp only [hji12] at H)
   have hji12_ : (IntKind.u64.wrap (1 * 2 ^ min (ji8).toNat 64)) = ji12 := hji12
   have hji12z : (ji8) ≤ 64 → (IntKind.u64.wrap (1 * 2 ^ (ji8).toNat)) = ji12 := shl_small hji12
   have hji12u : (IntKind.u64.wrap (2 ^ min (ji8).toNat 64)) = ji12 := by have h_ := hji12_; rw [Int.one_mul] at h_; exact h_
   have hji12v : (ji8) ≤ 64 → (IntKind.u64.wrap (2 ^ (ji8).toNat)) = ji12 := fun hle_ => by have h_ := hji12z hle_; rw [Int.one_mul] at h_; exact h_
   by_cases c13 : (Go.bits .and .u64 a0 (IntKind.u64.wrap ((ji12) - 1))) = t435
   ·replace H := hE H c13
    obtain ⟨c13b0, c13b1⟩ := eT c13
    clear c13
    (first | rw [c13b0] | rw [c13b1] | (simp only [i64_w, i32_w]; rw [c13b0]) | skip)
    simp only [Option.some.injEq, Prod.mk.injEq] at H
    obtain ⟨rfl, rfl, rfl, rfl⟩ := H
    obtain ⟨hcz14_0, hcz14_1, hcz14_2, hfz14_0, hfz14_1, hfz14_2⟩ := cz3 (W := w5) BK437
    go_wp2
    refine bodyPost_ret (results_list (rs := [.tmp 4, .tmp 5, .tmp 6, .tmp 7]) rfl (by simp) (.tmp (.tmp (.tmp (.tmp .nil))))) rfl ?_
    exact ⟨by first | rfl | (simp [errW_none, errW_some] <;> rfl) | (simp only [← hji8, ← hji10, ← hji12]; first | rfl | (simp [errW_none, errW_some] <;> rfl)) | (simp [*, errW_none, errW_some] <;> rfl), bz⟩
   ·replace H := hN H c13
    obtain ⟨c13b0, c13b1⟩ := eF c13
    (first | rw [c13b0] | rw [c13b1] | (simp only [i64_w, i32_w]; rw [c13b0]) | skip)
    by_cases c15 : (Go.bits .and .u64 a0 (IntKind.u64.wrap ((ji12) - 1))) > t435
    ·replace H := hE H c15
     have c15b0 : decide (t435 < (Go.bits .and .u64 a0 (IntKind.u64.wrap ((ji12) - 1)))) = true := decide_eq_true c15
     clear c15
     simp only [Option.some.injEq, Prod.mk.injEq] at H
     obtain ⟨rfl, rfl, rfl, rfl⟩ := H
     obtain ⟨hcz16_0, hcz16_1, hcz16_2, hfz16_0, hfz16_1, hfz16_2⟩ := cz3 (W := w5) BK437
     go_wp2
     refine bodyPost_ret (results_list (rs := [.tmp 4, .tmp 5, .tmp 6, .tmp 7]) rfl (by simp) (.tmp (.tmp (.tmp (.tmp .nil))))) rfl ?_
     exact ⟨by first | rfl | (simp [errW_none, errW_some] <;> rfl) | (simp only [← hji8, ← hji10, ← hji12]; first | rfl | (simp [errW_none, errW_some] <;> rfl)) | (simp [*, errW_none, errW_some] <;> rfl), bz⟩
    ·replace H := hN H c15
     have c15b0 : decide (t435 < (Go.bits .and .u64 a0 (IntKind.u64.wrap ((ji12) - 1)))) = false := decide_eq_false c15
     clear c15
     replace H := bs H
     obtain ⟨⟨t438, t439⟩, A17, H⟩ := H
     dsimp only at H
     simp only [Option.some.injEq, Prod.mk.injEq] at H
     obtain ⟨rfl, rfl, rfl, rfl⟩ := H
     obtain ⟨hcz18_0, hcz18_1, hcz18_2, hfz18_0, hfz18_1, hfz18_2⟩ := cz3 (W := w5) BK437
     go_wp2_with (first | ((with_reducible refine gate_callee (f := 43) rfl ?_); refine goesL_ (some 36) rfl rfl Tryz.func43 (by kernel_rfl) rfl #[.agg #[.int .i64 t433, .int .i64 t434, .int .u64 t435], .int .u64 (Go.bits .and .u64 a0 (IntKind.u64.wrap ((ji12) - 1)))] rfl (by (try simp only [List.map_toArray, List.map_cons, List.map_nil]); first | done | (simp only [hji12]; rfl) | rfl | (simp only [List.length_drop, List.length_take]; rfl)) ?_; (with_reducible refine (short_shape_value.calls t433 t434 t435 (Go.bits .and .u64 a0 (IntKind.u64.wrap ((ji12) - 1))) t438 t439 _ A17.out).mono ?_); rintro e w19 ⟨rfl, hb⟩; refine ⟨_, rfl, ?_⟩; replace BK437 := kN (g := gb437) (cs := #[.int .i64 t433, .int .i64 t434, .int .u64 t435]) hb bk; replace HB := bN bz hb; (try clear hb); (try clear hb2); (try clear hk); (try clear hi)))
     refine bodyPost_ret (results_list (rs := [.tmp 4, .tmp 5, .tmp 6, .tmp 7]) rfl (by simp) (.tmp (.tmp (.tmp (.tmp .nil))))) rfl ?_
     exact ⟨by first | rfl | (simp [errW_none, errW_some] <;> rfl) | (simp only [← hji8, ← hji10, ← hji12]; first | rfl | (simp [errW_none, errW_some] <;> rfl)) | (simp [*, errW_none, errW_some] <;> rfl), bz⟩
  ·replace H := hN H c9
   exact absurd H (by simp)
 ·replace c7 := Bool.eq_false_iff.mpr c7
  subst c7
  replace H := hF H
  simp only [Option.some.injEq, Prod.mk.injEq] at H
  obtain ⟨rfl, rfl, rfl, rfl⟩ := H
  go_wp2
  refine bodyPost_ret (results_list (rs := [.tmp 4, .tmp 5, .tmp 6, .tmp 7]) rfl (by simp) (.tmp (.tmp (.tmp (.tmp .nil))))) rfl ?_
  exact ⟨ez, bz⟩
end Go.Proofs.YtecpgdfnamkfdaaGreatDoor.Fn
end
section
namespace Go.Proofs.YtecpgdfnamkfdaaGreatDoor.Pure
open Go.RowKit Go.Proofs.YtecpgdfnamkfdaaGreatDoor.Fn Go.Proofs.YtecpgdfnamkfdaaGreatDoorW.PrintWords
set_option linter.unusedVariables false
set_option linter.unusedSimpArgs false
def szB (wide : Bool) : Int := if wide then 64 else 32
def ff (wide : Bool) : Nat := if wide then 52 else 23
def ll (wide : Bool) : Nat := if wide then 1074 else 149
def ii (wide : Bool) : Nat := if wide then 9218868437227405312 else 2139095040
def tt (wide : Bool) : Nat := if wide then 9223372036854775808 else 2147483648
theorem of_eq' (wide : Bool) : short_of.f (szB wide) = some ((ff wide : Int), -(ll wide : Int), (ii wide : Int), true) := by
  cases wide <;> simp [short_of.f, szB, ff, ll, ii]
theorem and_mask (j p : Nat) (hj : j ≤ 64) (hp : p < 18446744073709551616) : Go.bits .and .u64 (p : Int) ((2 ^ j - 1 : Nat) : Int) = ((p % 2 ^ j : Nat) : Int) := by
  have h2 : 2 ^ j ≤ 2 ^ 64 := Nat.pow_le_pow_right (by omega) hj
  have hpos : 0 < 2 ^ j := Nat.pow_pos (by omega)
  have e : (2 : Nat) ^ 64 = 18446744073709551616 := by decide
  rw [u64_and_nat _ _ hp (by omega), Nat.and_two_pow_sub_one_eq_mod]
theorem or_add (j x : Nat) (hj : j ≤ 63) (hx : x < 2 ^ j) : Go.bits .or .u64 (x : Int) ((2 ^ j : Nat) : Int) = ((x + 2 ^ j : Nat) : Int) := by
  have h2 : 2 ^ j ≤ 2 ^ 63 := Nat.pow_le_pow_right (by omega) hj
  have e : (2 : Nat) ^ 63 = 9223372036854775808 := by decide
  rw [u64_or_nat _ _ (by omega) (by omega), Nat.or_comm]
  have := Nat.two_pow_add_eq_or_of_lt hx 1
  rw [Nat.mul_one] at this
  rw [← this, Nat.add_comm]
theorem ff_lt (wide : Bool) : ff wide ≤ 52 := by cases wide <;> simp [ff]
theorem shr_eq (p j : Nat) (hj : j ≤ 64) : shr .u64 (p : Int) (j : Int) = ((p / 2 ^ j : Nat) : Int) := by
  unfold shr
  rw [Int.toNat_natCast, show min j (IntKind.u64.bits) = j from Nat.min_eq_left (by simpa [IntKind.bits] using hj)]
  simp
theorem shl_one (j : Nat) (hj : j ≤ 63) : shl .u64 1 (j : Int) = ((2 ^ j : Nat) : Int) := by
  have h2 : 2 ^ j ≤ 2 ^ 63 := Nat.pow_le_pow_right (by omega) hj
  have e : (2 : Nat) ^ 63 = 9223372036854775808 := by decide
  unfold shl
  rw [Int.toNat_natCast, show min j (IntKind.u64.bits) = j from Nat.min_eq_left (by simp [IntKind.bits]; omega), Int.one_mul]
  rw [show ((2 : Int) ^ j) = ((2 ^ j : Nat) : Int) by simp]
  generalize 2 ^ j = P at *
  exact u64_id (by omega) (by omega)
theorem mask_one (j : Nat) (hj : j ≤ 63) : IntKind.u64.wrap (shl .u64 1 (j : Int) - 1) = ((2 ^ j - 1 : Nat) : Int) := by
  have hpos : 0 < 2 ^ j := Nat.pow_pos (by omega)
  have h2 : 2 ^ j ≤ 2 ^ 63 := Nat.pow_le_pow_right (by omega) hj
  have e : (2 : Nat) ^ 63 = 9223372036854775808 := by decide
  rw [shl_one j hj]
  generalize 2 ^ j = P at *
  rw [u64_id (x := (P : Int) - 1) (by omega) (by omega)]
  omega
theorem value_eq (wide : Bool) (p : Nat) (hp : p < 9223372036854775808) :
    short_shape_value.f (ff wide : Int) (-(ll wide : Int)) (ii wide : Int) (p : Int) = some ((fM (ff wide) p : Int), (fE (ff wide) p : Int) - (ll wide : Int)) := by
  have hf := ff_lt wide
  have hl : ll wide ≤ 1074 := by cases wide <;> simp [ll]
  unfold short_shape_value.f
  rw [if_pos (by omega), shr_eq p _ (by omega), mask_one _ (by omega), and_mask _ _ (by omega) (by omega), shl_one _ (by omega)]
  have hd : p / 2 ^ ff wide ≤ p := Nat.div_le_self _ _
  unfold fM fE
  have hpos : 0 < 2 ^ ff wide := Nat.pow_pos (by omega)
  have hm := Nat.mod_lt p hpos
  by_cases c : p / 2 ^ ff wide = 0
  · rw [if_pos c, c, if_pos (by simp [wrap64])]
    congr 2
    omega
  · rw [if_neg c, or_add _ _ (by omega) hm]
    generalize p / 2 ^ ff wide = q at *
    rw [if_neg (by rw [wrap_id (by omega) (by omega)]; omega), wrap_id (x := (q : Int)) (by omega) (by omega), wrap_id (x := -(ll wide : Int) + (q : Int)) (by omega) (by omega), wrap_id (by omega) (by omega)]
    congr 2
    omega
def bareN (wide : Bool) (a : Nat) : Nat := a % tt wide
def partsS (wide : Bool) (a : Nat) : Bool × Int × Int × Int :=
  ((a / tt wide % 2 == 1 : Bool), if bareN wide a < ii wide then ((fM (ff wide) (bareN wide a) : Int), (fE (ff wide) (bareN wide a) : Int) - (ll wide : Int), 0) else (0, 0, if bareN wide a = ii wide then 1 else 2))
theorem tt_pow (wide : Bool) : ∃ j : Nat, j ≤ 63 ∧ tt wide = 2 ^ j ∧ wrap64 (szB wide - 1) = (j : Int) := by
  cases wide
  · exact ⟨31, by omega, by decide, by simp [szB, wrap64]⟩
  · exact ⟨63, by omega, by decide, by simp [szB, wrap64]⟩
theorem tt_le (wide : Bool) : 0 < tt wide ∧ tt wide ≤ 9223372036854775808 := by cases wide <;> simp [tt]
theorem ii_lt (wide : Bool) : 0 < ii wide ∧ ii wide < tt wide ∧ ii wide ≤ 9218868437227405312 := by cases wide <;> simp [ii, tt]
theorem neg_eq (wide : Bool) (x : Nat) : (((x % 2 : Nat) : Int) == 1) = (x % 2 == 1 : Bool) := by
  rw [Bool.eq_iff_iff]
  simp
  omega
theorem parts_eq (wide : Bool) (a : Nat) (ha : a < 18446744073709551616) : short_Parts.f (a : Int) (szB wide) = some (partsS wide a) := by
  obtain ⟨j, hj, ht, hw⟩ := tt_pow wide
  have hmt := Nat.mod_lt a (tt_le wide).1
  have htt := (tt_le wide).2
  unfold short_Parts.f
  rw [of_eq']
  simp only [Option.bind_some]
  rw [if_pos trivial, hw, if_pos (by omega), mask_one _ hj, and_mask _ _ (by omega) ha, ← ht, shr_eq _ _ (by omega), ← ht]
  rw [show (1 : Int) = ((2 ^ 1 - 1 : Nat) : Int) from rfl, and_mask _ _ (by omega) (Nat.lt_of_le_of_lt (Nat.div_le_self _ _) ha), value_eq wide _ (by omega)]
  simp only [Option.bind_some]
  unfold partsS bareN
  rw [show (((2 ^ 1 - 1 : Nat)) : Int) = 1 from rfl, show (2 : Nat) ^ 1 = 2 from rfl, neg_eq wide]
  generalize a % tt wide = p at *
  by_cases c1 : p = ii wide
  · rw [if_pos (by omega), if_neg (by omega), if_pos c1]
  · rw [if_neg (by omega)]
    by_cases c2 : p < ii wide
    · rw [if_neg (by omega), if_pos c2]
    · rw [if_pos (by omega), if_neg c2, if_neg c1]
theorem u64N (x : Nat) (h : x ≤ 18446744073709551615) : IntKind.u64.wrap (x : Int) = (x : Int) := u64_id (by omega) (by omega)
theorem tdivN (a b : Nat) : Int.tdiv (a : Int) (b : Int) = ((a / b : Nat) : Int) := by rw [tdiv_id (by omega)]; simp
theorem tmodN (a b : Nat) : Int.tmod (a : Int) (b : Int) = ((a % b : Nat) : Int) := by rw [tmod_id (by omega)]; simp
theorem ll_le (wide : Bool) : ll wide ≤ 1074 := by cases wide <;> simp [ll]
end Go.Proofs.YtecpgdfnamkfdaaGreatDoor.Pure
end
section
namespace Go.Proofs.YtecpgdfnamkfdaaGreatDoor.Fn
open Go.RowKit Go.Proofs.YtecpgdfnamkfdaaGreatDoorW.PrintWords Go.Proofs.YtecpgdfnamkfdaaGreatDoorW.PrintLast Go.Proofs.YtecpgdfnamkfdaaGreatDoorW.PrintMore
attribute [local go_sem] fnW_0 fnW_1 fnW_2 fnW_3 fnW_4 fnW_5 fnW_guard fnW_eql max2_int min2_int max_two min_two
set_option linter.unusedVariables false
set_option linter.unusedSimpArgs false
def short_cmp.f (k : Nat) (a0_0 : ByteArray) (a0_1 : Int) (a1_0 : ByteArray) (a1_1 : Int) : Option (Int) := (bigdec_Cmp.f k a0_0 a0_1 a1_0 a1_1).bind fun bt139 => (some bt139.1)
set_option maxHeartbeats 8000000 in
set_option maxRecDepth 100000 in
theorem short_cmp.calls (k : Nat) (a0_0 : ByteArray) (a0_1 : Int) (a1_0 : ByteArray) (a1_1 : Int) (r : Int) (w : World) (h : short_cmp.f k a0_0 a0_1 a1_0 a1_1 = some r) :
  Calls Tryz.prog 53 #[.agg #[.string a0_0, .int .i64 a0_1], .agg #[.string a1_0, .int .i64 a1_1]] w fun e w' => e = .returned (.int .i64 r) ∧ Below w.heap.size w w' := by
 have hu42 := Tryz.underlying42
 have HB := Aside0.mk (Below.refl w.heap.size w)
 have H : ((bigdec_Cmp.f k a0_0 a0_1 a1_0 a1_1).bind fun bt139 => (some bt139.1)) = some r := h
 clear h
 replace H := bs H
 obtain ⟨⟨t139, t140⟩, A3, H⟩ := H
 dsimp only at H
 obtain rfl := Option.some.inj H
 go_enter Tryz.func53, Tryz.ntmps53
 go_wp2_with (first | ((with_reducible refine gate_dst (N := 2) rfl ?_); refine box_event rfl (N := 2) rfl (cs := #[.string a0_0, .int .i64 a0_1]) (t := 42) gz ?_; intro gb137 hg w4 hbox hb; have GE137 := gN bz hg; have BK137 := Aside0.mk hbox; replace HB := bN bz hb; clear hb hbox hg) | ((with_reducible refine gate_dst (N := 3) rfl ?_); refine box_event rfl (N := 3) rfl (cs := #[.string a1_0, .int .i64 a1_1]) (t := 42) gz ?_; intro gb138 hg w5 hbox hb; have GE138 := gN bz hg; have NB137_138 := lN (g := gb137) (cs := #[.string a0_0, .int .i64 a0_1]) hg bk; have NB138_137 := rN (g := gb137) (cs := #[.string a0_0, .int .i64 a0_1]) hg bk; replace BK137 := kN (g := gb137) (cs := #[.string a0_0, .int .i64 a0_1]) hb bk; have BK138 := Aside0.mk hbox; replace HB := bN bz hb; clear hb hbox hg; have hnb6 := NB137_138.out; have hnc6 := NB138_137.out; obtain ⟨hcz7_0, hcz7_1, hfz7_0, hfz7_1⟩ := cz2 (W := w5) BK137; obtain ⟨hcz8_0, hcz8_1, hfz8_0, hfz8_1⟩ := cz2 (W := w5) BK138) | ((with_reducible refine gate_callee (f := 82) rfl ?_); refine goesL_ (some 10) rfl rfl Tryz.func82 (by kernel_rfl) rfl #[.agg #[.string a0_0, .int .i64 a0_1], .agg #[.string a1_0, .int .i64 a1_1]] rfl lz ?_; (with_reducible refine (bigdec_Cmp.calls k a0_0 a0_1 a1_0 a1_1 t139 t140 _ A3.out).mono ?_); rintro e w9 ⟨rfl, hb⟩; refine ⟨_, rfl, ?_⟩; replace BK137 := kN (g := gb137) (cs := #[.string a0_0, .int .i64 a0_1]) hb bk; replace BK138 := kN (g := gb138) (cs := #[.string a1_0, .int .i64 a1_1]) hb bk; replace HB := bN bz hb; (try clear hb); (try clear hb2); (try clear hk); (try clear hi)))
 go_ret
 exact ⟨ez, bz⟩
end Go.Proofs.YtecpgdfnamkfdaaGreatDoor.Fn
end
