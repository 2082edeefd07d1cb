/- The law FloatsRefuses: the walks through its functions and its plain law (part 4). Own texts and the kit's printed words for this seat, without what the law does not use: put together by merge.py (of this work). -/
import Derived.Test.YtecpgdfnamkfdaaGreatDoorMFloatsRefuses3
section
namespace Go.Proofs.YtecpgdfnamkfdaaGreatDoor.Fn
open Go.RowKit Go.Proofs.YtecpgdfnamkfdaaGreatDoorW.PrintWords Go.Proofs.YtecpgdfnamkfdaaGreatDoorW.PrintLast Go.Proofs.YtecpgdfnamkfdaaGreatDoorW.PrintMore
attribute [local go_sem] fnW_0 fnW_1 fnW_2 fnW_3 fnW_4 fnW_5 fnW_guard fnW_eql max2_int min2_int max_two min_two
set_option linter.unusedVariables false
set_option linter.unusedSimpArgs false
mutual
def floats_chosen.j0 : Nat → Int → Bool → Option (Int)
 | 0, _, _ => none
 | k + 1, x3, x4 => if x4 = true then (some 1) else (if x3 = 102 then (floats_chosen.j1 k x3 (x3 == 102)) else (floats_chosen.j1 k x3 (x3 == 70)))
def floats_chosen.j1 : Nat → Int → Bool → Option (Int)
 | 0, _, _ => none
 | k + 1, x3, x7 => if x7 = true then (some 2) else (if x3 = 103 then (floats_chosen.j2 k x3 (x3 == 103)) else (if x3 = 71 then (floats_chosen.j2 k x3 (x3 == 71)) else (floats_chosen.j2 k x3 (x3 == 118))))
def floats_chosen.j2 : Nat → Int → Bool → Option (Int)
 | 0, _, _ => none
 | k + 1, x3, x10 => if x10 = true then (some 3) else (if x3 = 98 then (some 4) else (if x3 = 120 then (some 5) else (if x3 = 88 then (some 5) else (some 0))))
end
def floats_chosen.f (k : Nat) (a0 : Int) : Option (Int) := if a0 = 101 then (floats_chosen.j0 k a0 (a0 == 101)) else (floats_chosen.j0 k a0 (a0 == 69))
set_option maxHeartbeats 8000000 in
set_option maxRecDepth 100000 in
theorem floats_chosen.calls (k : Nat) (a0 : Int) (r : Int) (w : World) (h : floats_chosen.f k a0 = some r) :
  Calls Tryz.prog 44 #[.int .i32 a0] w fun e w' => e = .returned (fnW r) ∧ Drawn0 w w' := by
 have H : (if a0 = 101 then (floats_chosen.j0 k a0 (a0 == 101)) else (floats_chosen.j0 k a0 (a0 == 69))) = some r := h
 clear h
 have HC2 := Aside0.mk H
 clear H
 go_enter Tryz.func44, Tryz.ntmps44
 go_upto_if 4 with (fail)
 go_cut [4] (fun v4 wc => ∃ (kq : Nat) (x4_1 : Bool), v4 = .bool x4_1 ∧ Aside0 (floats_chosen.j0 kq a0 x4_1 = some r) ∧ Aside0 (kq ≤ k) ∧ Drawn0 w wc)
 case first =>
  have H := HC2.out
  clear HC2
  by_cases c3 : a0 = 101
  ·replace H := hE H c3
   obtain ⟨c3b0, c3b1⟩ := eT c3
   clear c3
   try first | rw [c3b0] | rw [c3b1]
   have H' := Aside0.mk H
   clear H
   go_wp2
   go_meet
   case rel => exact ⟨_, ((a0 == 101)), rz, H', ⟨by first | omega | exact Nat.le_refl _⟩, by repeat (first | exact Drawn0.refl _ | apply Drawn0.step)⟩
  ·replace H := hN H c3
   obtain ⟨c3b0, c3b1⟩ := eF c3
   try first | rw [c3b0] | rw [c3b1]
   have H' := Aside0.mk H
   clear H
   go_wp2
   go_meet
   case rel => exact ⟨_, ((a0 == 69)), rz, H', ⟨by first | omega | exact Nat.le_refl _⟩, by repeat (first | exact Drawn0.refl _ | apply Drawn0.step)⟩
 case rest =>
  clear HC2
  try clear c3
  try clear c3b0
  try clear c3b1
  obtain ⟨kq, x4_1, rfl, HA, HJ1, ⟨mc1, rfl⟩⟩ := hcut
  cases kq with
  | zero => exact absurd HA.out (by simp [floats_chosen.j0])
  | succ kj1 =>
   have H := HA.out
   clear HA
   simp only [floats_chosen.j0] at H
   by_cases c4 : x4_1 = true
   ·subst c4
    replace H := hT H
    obtain rfl := Option.some.inj H
    go_wp2
    go_ret
    exact ⟨by first | rfl | (simp; done) | (simp [*]; done), by repeat (first | exact Drawn0.refl _ | apply Drawn0.step)⟩
   ·replace c4 := Bool.eq_false_iff.mpr c4
    subst c4
    replace H := hF H
    have HC5 := Aside0.mk H
    clear H
    go_upto_if 7 with (fail)
    go_cut [7] (fun v7 wc => ∃ (kq : Nat) (x7_4 : Bool), v7 = .bool x7_4 ∧ Aside0 (floats_chosen.j1 kq a0 x7_4 = some r) ∧ Aside0 (kq ≤ kj1) ∧ Drawn0 w wc)
    case first =>
     have H := HC5.out
     clear HC5
     by_cases c6 : a0 = 102
     ·replace H := hE H c6
      obtain ⟨c6b0, c6b1⟩ := eT c6
      clear c6
      try first | rw [c6b0] | rw [c6b1]
      have H' := Aside0.mk H
      clear H
      go_wp2
      go_meet
      case rel => exact ⟨_, ((a0 == 102)), rz, H', ⟨by have := HJ1.out; first | omega | exact Nat.le_refl _⟩, by repeat (first | exact Drawn0.refl _ | apply Drawn0.step)⟩
     ·replace H := hN H c6
      obtain ⟨c6b0, c6b1⟩ := eF c6
      try first | rw [c6b0] | rw [c6b1]
      have H' := Aside0.mk H
      clear H
      go_wp2
      go_meet
      case rel => exact ⟨_, ((a0 == 70)), rz, H', ⟨by have := HJ1.out; first | omega | exact Nat.le_refl _⟩, by repeat (first | exact Drawn0.refl _ | apply Drawn0.step)⟩
    case rest =>
     clear HC5
     try clear c3
     try clear c3b0
     try clear c3b1
     try clear c4
     try clear c6
     try clear c6b0
     try clear c6b1
     obtain ⟨kq, x7_4, rfl, HA, HJ4, ⟨mc4, rfl⟩⟩ := hcut
     cases kq with
     | zero => exact absurd HA.out (by simp [floats_chosen.j1])
     | succ kj4 =>
      have H := HA.out
      clear HA
      simp only [floats_chosen.j1] at H
      by_cases c7 : x7_4 = true
      ·subst c7
       replace H := hT H
       obtain rfl := Option.some.inj H
       go_wp2
       go_ret
       exact ⟨by first | rfl | (simp; done) | (simp [*]; done), by repeat (first | exact Drawn0.refl _ | apply Drawn0.step)⟩
      ·replace c7 := Bool.eq_false_iff.mpr c7
       subst c7
       replace H := hF H
       have HC8 := Aside0.mk H
       clear H
       go_upto_if 10 with (fail)
       go_cut [10] (fun v10 wc => ∃ (kq : Nat) (x10_7 : Bool), v10 = .bool x10_7 ∧ Aside0 (floats_chosen.j2 kq a0 x10_7 = some r) ∧ Aside0 (kq ≤ kj4) ∧ Drawn0 w wc)
       case first =>
        have H := HC8.out
        clear HC8
        by_cases c9 : a0 = 103
        ·replace H := hE H c9
         obtain ⟨c9b0, c9b1⟩ := eT c9
         clear c9
         try first | rw [c9b0] | rw [c9b1]
         have H' := Aside0.mk H
         clear H
         go_wp2
         go_meet
         case rel => exact ⟨_, ((a0 == 103)), rz, H', ⟨by have := HJ1.out; have := HJ4.out; first | omega | exact Nat.le_refl _⟩, by repeat (first | exact Drawn0.refl _ | apply Drawn0.step)⟩
        ·replace H := hN H c9
         obtain ⟨c9b0, c9b1⟩ := eF c9
         try first | rw [c9b0] | rw [c9b1]
         by_cases c10 : a0 = 71
         ·replace H := hE H c10
          obtain ⟨c10b0, c10b1⟩ := eT c10
          clear c10
          have H' := Aside0.mk H
          clear H
          go_wp2
          go_meet
          case rel => exact ⟨_, ((a0 == 71)), rz, H', ⟨by have := HJ1.out; have := HJ4.out; first | omega | exact Nat.le_refl _⟩, by repeat (first | exact Drawn0.refl _ | apply Drawn0.step)⟩
         ·replace H := hN H c10
          obtain ⟨c10b0, c10b1⟩ := eF c10
          have H' := Aside0.mk H
          clear H
          go_wp2
          go_meet
          case rel => exact ⟨_, ((a0 == 118)), rz, H', ⟨by have := HJ1.out; have := HJ4.out; first | omega | exact Nat.le_refl _⟩, by repeat (first | exact Drawn0.refl _ | apply Drawn0.step)⟩
       case rest =>
        clear HC8
        try clear c3
        try clear c3b0
        try clear c3b1
        try clear c4
        try clear c6
        try clear c6b0
        try clear c6b1
        try clear c7
        try clear c9
        try clear c9b0
        try clear c9b1
        try clear c10
        try clear c10b0
        try clear c10b1
        obtain ⟨kq, x10_7, rfl, HA, HJ7, ⟨mc7, rfl⟩⟩ := hcut
        cases kq with
        | zero => exact absurd HA.out (by simp [floats_chosen.j2])
        | succ kj7 =>
         have H := HA.out
         clear HA
         simp only [floats_chosen.j2] at H
         by_cases c11 : x10_7 = true
         ·subst c11
          replace H := hT H
          obtain rfl := Option.some.inj H
          go_wp2
          go_ret
          exact ⟨by first | rfl | (simp; done) | (simp [*]; done), by repeat (first | exact Drawn0.refl _ | apply Drawn0.step)⟩
         ·replace c11 := Bool.eq_false_iff.mpr c11
          subst c11
          replace H := hF H
          by_cases c12 : a0 = 98
          ·replace H := hE H c12
           obtain ⟨c12b0, c12b1⟩ := eT c12
           clear c12
           obtain rfl := Option.some.inj H
           go_wp2
           go_ret
           exact ⟨by first | rfl | (simp; done) | (simp [*]; done), by repeat (first | exact Drawn0.refl _ | apply Drawn0.step)⟩
          ·replace H := hN H c12
           obtain ⟨c12b0, c12b1⟩ := eF c12
           by_cases c13 : a0 = 120
           ·replace H := hE H c13
            obtain ⟨c13b0, c13b1⟩ := eT c13
            clear c13
            obtain rfl := Option.some.inj H
            go_wp2
            go_ret
            exact ⟨by first | rfl | (simp; done) | (simp [*]; done), by repeat (first | exact Drawn0.refl _ | apply Drawn0.step)⟩
           ·replace H := hN H c13
            obtain ⟨c13b0, c13b1⟩ := eF c13
            by_cases c14 : a0 = 88
            ·replace H := hE H c14
             obtain ⟨c14b0, c14b1⟩ := eT c14
             clear c14
             obtain rfl := Option.some.inj H
             go_wp2
             go_ret
             exact ⟨by first | rfl | (simp; done) | (simp [*]; done), by repeat (first | exact Drawn0.refl _ | apply Drawn0.step)⟩
            ·replace H := hN H c14
             obtain ⟨c14b0, c14b1⟩ := eF c14
             obtain rfl := Option.some.inj H
             go_wp2
             go_ret
             exact ⟨by first | rfl | (simp; done) | (simp [*]; done), by repeat (first | exact Drawn0.refl _ | apply Drawn0.step)⟩
end Go.Proofs.YtecpgdfnamkfdaaGreatDoor.Fn
end
section
namespace Go.Proofs.YtecpgdfnamkfdaaGreatDoor.Fn
open Go.RowKit Go.Proofs.YtecpgdfnamkfdaaGreatDoorW.PrintWords Go.Proofs.YtecpgdfnamkfdaaGreatDoorW.PrintLast Go.Proofs.YtecpgdfnamkfdaaGreatDoorW.PrintMore
attribute [local go_sem] fnW_0 fnW_1 fnW_2 fnW_3 fnW_4 fnW_5 fnW_guard fnW_eql max2_int min2_int max_two min_two
set_option linter.unusedVariables false
set_option linter.unusedSimpArgs false
def platenlaw06_bare.f (a0 : Int) : Option (Bool × Bool × Bool × Bool × Bool × Int × Int × Int) := some (false, false, false, false, false, (-1), (-1), a0)
set_option maxHeartbeats 8000000 in
set_option maxRecDepth 100000 in
theorem platenlaw06_bare.calls (a0 : Int) (r1 : Bool) (r2 : Bool) (r3 : Bool) (r4 : Bool) (r5 : Bool) (r6 : Int) (r7 : Int) (r8 : Int) (w : World) (h : platenlaw06_bare.f a0 = some (r1, r2, r3, r4, r5, r6, r7, r8)) :
  Calls Tryz.prog 30 #[.int .i32 a0] w fun e w' => e = .returned (.agg #[.bool r1, .bool r2, .bool r3, .bool r4, .bool r5, .int .i64 r6, .int .i64 r7, .int .i32 r8]) ∧ Below w.heap.size w w' := by
 have hu26 := Tryz.underlying26
 have HB := Aside0.mk (Below.refl w.heap.size w)
 have H : (some (false, false, false, false, false, (-1), (-1), a0)) = some (r1, r2, r3, r4, r5, r6, r7, r8) := h
 clear h
 simp only [Option.some.injEq, Prod.mk.injEq] at H
 obtain ⟨rfl, rfl, rfl, rfl, rfl, rfl, rfl, rfl⟩ := H
 go_enter Tryz.func30, Tryz.ntmps30
 go_wp2_with (first | ((with_reducible refine gate_dst (N := 2) rfl ?_); refine box_event rfl (N := 2) rfl (cs := #[.bool false, .bool false, .bool false, .bool false, .bool false, .int .i64 0, .int .i64 0, .int .i32 0]) (t := 26) gz ?_; intro gb819 hg w2 hbox hb; have GE819 := gN bz hg; have BK819 := Aside0.mk hbox; replace HB := bN bz hb; clear hb hbox hg; obtain ⟨hcz3_0, hcz3_1, hcz3_2, hcz3_3, hcz3_4, hcz3_5, hcz3_6, hcz3_7, hfz3_0, hfz3_1, hfz3_2, hfz3_3, hfz3_4, hfz3_5, hfz3_6, hfz3_7⟩ := cz8 (W := w2) BK819))
 refine bodyPost_ret (results_cell_row rfl _ _ gb819 26 #[.bool false, .bool false, .bool false, .bool false, .bool false, .int .i64 (-1), .int .i64 (-1), .int .i32 a0] (0, 0) _ rfl bk Tryz.underlying26 rfl (by kernel_rfl)) rfl ?_
 exact ⟨ez, bz⟩
end Go.Proofs.YtecpgdfnamkfdaaGreatDoor.Fn
end
section
namespace Go.Proofs.YtecpgdfnamkfdaaGreatDoor.Fn
open Go.RowKit Go.Proofs.YtecpgdfnamkfdaaGreatDoorW.PrintWords
set_option linter.unusedVariables false
set_option linter.unusedSimpArgs false
def isVerb (v : Int) : Bool := decide (v = 118 ∨ v = 101 ∨ v = 69 ∨ v = 102 ∨ v = 70 ∨ v = 103 ∨ v = 71 ∨ v = 98 ∨ v = 120 ∨ v = 88)
theorem verb_at0 (w : World) (ty : TypeId) : (Instr.next (.pointer (some ⟨w.heap.size, 0, none⟩)) true ty).run Tryz.prog (w.iter (⟨#[118, 101, 69, 102, 70, 103, 71, 98, 120, 88]⟩ : ByteArray) 0) = .ok (.tuple #[.bool true, .int .i64 0, .int .i32 118]) (w.iter (⟨#[118, 101, 69, 102, 70, 103, 71, 98, 120, 88]⟩ : ByteArray) 1) := run_next_ascii (P := Tryz.prog) w _ 0 ty (by decide) (by decide)
theorem verb_at1 (w : World) (ty : TypeId) : (Instr.next (.pointer (some ⟨w.heap.size, 0, none⟩)) true ty).run Tryz.prog (w.iter (⟨#[118, 101, 69, 102, 70, 103, 71, 98, 120, 88]⟩ : ByteArray) 1) = .ok (.tuple #[.bool true, .int .i64 1, .int .i32 101]) (w.iter (⟨#[118, 101, 69, 102, 70, 103, 71, 98, 120, 88]⟩ : ByteArray) 2) := run_next_ascii (P := Tryz.prog) w _ 1 ty (by decide) (by decide)
theorem verb_at2 (w : World) (ty : TypeId) : (Instr.next (.pointer (some ⟨w.heap.size, 0, none⟩)) true ty).run Tryz.prog (w.iter (⟨#[118, 101, 69, 102, 70, 103, 71, 98, 120, 88]⟩ : ByteArray) 2) = .ok (.tuple #[.bool true, .int .i64 2, .int .i32 69]) (w.iter (⟨#[118, 101, 69, 102, 70, 103, 71, 98, 120, 88]⟩ : ByteArray) 3) := run_next_ascii (P := Tryz.prog) w _ 2 ty (by decide) (by decide)
theorem verb_at3 (w : World) (ty : TypeId) : (Instr.next (.pointer (some ⟨w.heap.size, 0, none⟩)) true ty).run Tryz.prog (w.iter (⟨#[118, 101, 69, 102, 70, 103, 71, 98, 120, 88]⟩ : ByteArray) 3) = .ok (.tuple #[.bool true, .int .i64 3, .int .i32 102]) (w.iter (⟨#[118, 101, 69, 102, 70, 103, 71, 98, 120, 88]⟩ : ByteArray) 4) := run_next_ascii (P := Tryz.prog) w _ 3 ty (by decide) (by decide)
theorem verb_at4 (w : World) (ty : TypeId) : (Instr.next (.pointer (some ⟨w.heap.size, 0, none⟩)) true ty).run Tryz.prog (w.iter (⟨#[118, 101, 69, 102, 70, 103, 71, 98, 120, 88]⟩ : ByteArray) 4) = .ok (.tuple #[.bool true, .int .i64 4, .int .i32 70]) (w.iter (⟨#[118, 101, 69, 102, 70, 103, 71, 98, 120, 88]⟩ : ByteArray) 5) := run_next_ascii (P := Tryz.prog) w _ 4 ty (by decide) (by decide)
theorem verb_at5 (w : World) (ty : TypeId) : (Instr.next (.pointer (some ⟨w.heap.size, 0, none⟩)) true ty).run Tryz.prog (w.iter (⟨#[118, 101, 69, 102, 70, 103, 71, 98, 120, 88]⟩ : ByteArray) 5) = .ok (.tuple #[.bool true, .int .i64 5, .int .i32 103]) (w.iter (⟨#[118, 101, 69, 102, 70, 103, 71, 98, 120, 88]⟩ : ByteArray) 6) := run_next_ascii (P := Tryz.prog) w _ 5 ty (by decide) (by decide)
theorem verb_at6 (w : World) (ty : TypeId) : (Instr.next (.pointer (some ⟨w.heap.size, 0, none⟩)) true ty).run Tryz.prog (w.iter (⟨#[118, 101, 69, 102, 70, 103, 71, 98, 120, 88]⟩ : ByteArray) 6) = .ok (.tuple #[.bool true, .int .i64 6, .int .i32 71]) (w.iter (⟨#[118, 101, 69, 102, 70, 103, 71, 98, 120, 88]⟩ : ByteArray) 7) := run_next_ascii (P := Tryz.prog) w _ 6 ty (by decide) (by decide)
theorem verb_at7 (w : World) (ty : TypeId) : (Instr.next (.pointer (some ⟨w.heap.size, 0, none⟩)) true ty).run Tryz.prog (w.iter (⟨#[118, 101, 69, 102, 70, 103, 71, 98, 120, 88]⟩ : ByteArray) 7) = .ok (.tuple #[.bool true, .int .i64 7, .int .i32 98]) (w.iter (⟨#[118, 101, 69, 102, 70, 103, 71, 98, 120, 88]⟩ : ByteArray) 8) := run_next_ascii (P := Tryz.prog) w _ 7 ty (by decide) (by decide)
theorem verb_at8 (w : World) (ty : TypeId) : (Instr.next (.pointer (some ⟨w.heap.size, 0, none⟩)) true ty).run Tryz.prog (w.iter (⟨#[118, 101, 69, 102, 70, 103, 71, 98, 120, 88]⟩ : ByteArray) 8) = .ok (.tuple #[.bool true, .int .i64 8, .int .i32 120]) (w.iter (⟨#[118, 101, 69, 102, 70, 103, 71, 98, 120, 88]⟩ : ByteArray) 9) := run_next_ascii (P := Tryz.prog) w _ 8 ty (by decide) (by decide)
theorem verb_at9 (w : World) (ty : TypeId) : (Instr.next (.pointer (some ⟨w.heap.size, 0, none⟩)) true ty).run Tryz.prog (w.iter (⟨#[118, 101, 69, 102, 70, 103, 71, 98, 120, 88]⟩ : ByteArray) 9) = .ok (.tuple #[.bool true, .int .i64 9, .int .i32 88]) (w.iter (⟨#[118, 101, 69, 102, 70, 103, 71, 98, 120, 88]⟩ : ByteArray) 10) := run_next_ascii (P := Tryz.prog) w _ 9 ty (by decide) (by decide)
theorem verb_end (w : World) (ty : TypeId) : (Instr.next (.pointer (some ⟨w.heap.size, 0, none⟩)) true ty).run Tryz.prog (w.iter (⟨#[118, 101, 69, 102, 70, 103, 71, 98, 120, 88]⟩ : ByteArray) 10) = .ok (.tuple #[.bool false]) (w.iter (⟨#[118, 101, 69, 102, 70, 103, 71, 98, 120, 88]⟩ : ByteArray) 10) := run_next_end (P := Tryz.prog) w _ 10 ty (by decide)
end Go.Proofs.YtecpgdfnamkfdaaGreatDoor.Fn
end
