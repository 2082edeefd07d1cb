/- The contract of bigdec.up: digits and one more at the last place. -/
import Derived.Test.YtobidkjmgkmaoaaDoorFn0
import Derived.Test.YtobidkjmgkmaoaaDoorHandBytes
namespace Go.Proofs.YtobidkjmgkmaoaaDoor.Fn
open Go.RowKit Go.Proofs.YtobidkjmgkmaoaaDoorW.PrintWords
set_option linter.unusedVariables false
set_option linter.unusedSimpArgs false
/-- j digits are still to be looked at. -/
def upGo (xs : List Int) : Nat → List Int
  | 0 => 49 :: xs
  | j + 1 => if rd xs j < 57 then xs.set j (rd xs j + 1) else upGo (xs.set j 48) j
def bigdec_up.f (s : ByteArray) : Option ByteArray := if s.size ≤ 100000 then some (strOfNums (upGo (bytesOf s) s.size)) else none
theorem rd_cast (xs : List Int) (j : Nat) : rd xs (j : Int) = xs.getD j 0 := by unfold rd; rfl
theorem pos_set {xs : List Int} (h : ∀ x ∈ xs, 0 ≤ x) (j : Nat) (y : Int) (hy : 0 ≤ y) : ∀ x ∈ xs.set j y, 0 ≤ x := by
  intro x hx
  rcases List.mem_or_eq_of_mem_set hx with h1 | h1
  · exact h x h1
  · rw [h1]; exact hy
theorem pos_rd {xs : List Int} (h : ∀ x ∈ xs, 0 ≤ x) (i : Int) : 0 ≤ rd xs i := by
  unfold rd
  rw [List.getD_eq_getElem?_getD]
  cases hg : xs[i.toNat]? with
  | none => simp
  | some x => exact h x (List.mem_of_getElem? hg)
theorem one_ahead (xs : List Int) : (⟨#[49]⟩ : ByteArray) ++ strOfNums xs = strOfNums (49 :: xs) := by
  apply ByteArray.ext
  rw [ByteArray.data_append]
  simp [strOfNums]
set_option maxHeartbeats 4000000 in
set_option maxRecDepth 100000 in
theorem bigdec_up.calls (a0 r : ByteArray) (w : World) (h : bigdec_up.f a0 = some r) :
    Calls Tryd.prog 43 #[.string a0] w fun e w' => e = .returned (.string r) ∧ Below w.heap.size w w' := by
  unfold bigdec_up.f at h
  split at h
  case isFalse => cases h
  rename_i hsz
  obtain rfl := Option.some.inj h
  clear h
  have kc := fun W => print_bytes (P := Tryd.prog) 9 47 5 Tryd.underlying9 Tryd.underlying47 Tryd.underlying5 a0 W
  have HM := Aside0.mk (Bts.made w 5 a0)
  have HB := Aside0.mk (bytes_below (Below.refl w.heap.size w) (Nat.le_refl _) 5 a0)
  have hlen : (bytesOf a0).length = a0.size := bytesOf_length a0
  have hpos : ∀ x ∈ bytesOf a0, 0 ≤ x := by
    intro x hx
    simp only [bytesOf, List.mem_map] at hx
    obtain ⟨b, _, rfl⟩ := hx
    omega
  have HP := Aside0.mk hpos
  have HL := Aside0.mk hlen
  clear hpos hlen
  go_enter Tryd.func43, Tryd.ntmps43
  go_wp2
  clear kc
  generalize grownCap w a0.size 0 5 = cap
  generalize hW1 : Lib.bytesWorld w 5 a0 = w1 at HM HB ⊢
  clear hW1
  go_loopw [4] (fun i wr => ∃ (j : Nat) (xs : List Int), j ≤ a0.size ∧ i = .int .i64 ((j : Int) - 1) ∧ Aside0 (xs.length = a0.size) ∧ Aside0 (∀ x ∈ xs, 0 ≤ x) ∧ Aside0 (upGo xs j = upGo (bytesOf a0) a0.size) ∧ Aside0 (Bts wr 5 w.heap.size xs) ∧ Aside0 (Below w.heap.size w wr)) (fun i _ => (intOf i + 1).toNat)
  case atStart => exact ⟨a0.size, bytesOf a0, Nat.le_refl _, rfl, HL, HP, ⟨rfl⟩, HM, HB⟩
  case round =>
    obtain ⟨j, xs, hj, rfl, HL1, HP1, HU, HM1, HB1⟩ := hrel
    cases j with
    | zero =>
      have ht := HM1.out.text (P := Tryd.prog) (src := 47) (dst := 9) (cap := cap) Tryd.underlying47 Tryd.underlying5 Tryd.underlying9
      rw [HL1.out] at ht
      have hsz2 : 1 + (strOfNums xs).size ≤ 9223372036854775807 := by rw [strOfNums_size, HL1.out]; omega
      go_wp2
      go_ret
      refine ⟨?_, HB1.out⟩
      rw [one_ahead, ← HU.out]
      rfl
    | succ m =>
      have hm : m < a0.size := hj
      have hml : m < xs.length := by rw [HL1.out]; exact hm
      have hc := HM1.out.cell m hml
      have hf := HM1.out.free m hml
      have hx := pos_rd HP1.out (m : Int)
      rw [show (((m + 1 : Nat) : Int) - 1) = (m : Int) by omega]
      have HU' : Aside0 ((if rd xs m < 57 then xs.set m (rd xs m + 1) else upGo (xs.set m 48) m) = upGo (bytesOf a0) a0.size) := ⟨HU.out⟩
      by_cases hlt : rd xs m < 57
      · have hS := HM1.out.set m (rd xs m + 1)
        have HS := Aside0.mk hS
        have HU2 := Aside0.mk ((if_pos hlt).symm.trans HU'.out)
        clear hS HU'
        have ht := HS.out.text (P := Tryd.prog) (src := 47) (dst := 9) (cap := cap) Tryd.underlying47 Tryd.underlying5 Tryd.underlying9
        rw [List.length_set, HL1.out] at ht
        have HBB := Aside0.mk (below_set HB1.out (Nat.le_refl _) : Below w.heap.size w (wr.setCell ⟨w.heap.size, m, none⟩ (.int .u8 (rd xs m + 1))))
        generalize rd xs m = x at *
        clear HM1
        go_wp2
        go_ret
        refine ⟨?_, HBB.out⟩
        rw [HU2.out]
        rfl
      · have HU2 := Aside0.mk ((if_neg hlt).symm.trans HU'.out)
        clear HU'
        go_wp2
        go_roundw
        case rel => exact ⟨m, xs.set m 48, by omega, by go_num, ⟨by rw [List.length_set]; exact HL1.out⟩, ⟨pos_set HP1.out m 48 (by omega)⟩, HU2, ⟨HM1.out.set m 48⟩, ⟨below_set HB1.out (Nat.le_refl _)⟩⟩
        case measure => simp [intOf]
end Go.Proofs.YtobidkjmgkmaoaaDoor.Fn
