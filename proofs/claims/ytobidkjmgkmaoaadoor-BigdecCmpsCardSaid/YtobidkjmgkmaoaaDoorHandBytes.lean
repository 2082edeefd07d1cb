/- A row that '[]byte(s)' has made, and that is written: its cells, read and stored into. No program in it. -/
import Derived.Test.YtobidkjmgkmaoaaDoorFn0
namespace Go.Proofs.YtobidkjmgkmaoaaDoor.Fn
open Go.RowKit Go.Proofs.YtobidkjmgkmaoaaDoorW.PrintWords
/-- Block g is a row of bytes of the call's own, beginning with xs; its mark lies behind its cells. -/
def Bts (w : World) (e : TypeId) (g : Nat) (xs : List Int) : Prop :=
  ∃ cur lo hi, w.heap[g]? = some (.cells cur e (lo, hi)) ∧ xs.length ≤ cur.size ∧ cur.size ≤ lo ∧ cur.toList.take xs.length = nums .u8 xs
theorem Bts.made (w : World) (e : TypeId) (s : ByteArray) : Bts (Lib.bytesWorld w e s) e w.heap.size (bytesOf s) := by
  have hb : s.size ≤ (Lib.bytesCells w e s).size := by
    unfold Lib.bytesCells
    rw [Array.size_append, Array.size_map]
    exact Nat.le_add_right _ _
  refine ⟨_, _, _, Lib.bytesWorld_at_new w e s, by rw [bytesOf_length]; exact hb, Nat.le_refl _, ?_⟩
  rw [bytesOf_length]
  unfold Lib.bytesCells
  rw [Array.toList_append, List.take_append_of_le_length (by rw [Array.length_toList, Array.size_map]; exact Nat.le_refl _), List.take_of_length_le (by rw [Array.length_toList, Array.size_map]; exact Nat.le_refl _)]
  simp [nums, bytesOf]
theorem Bts.cell {w : World} {e : TypeId} {g : Nat} {xs : List Int} (h : Bts w e g xs) (i : Nat) (hi : i < xs.length) : w.cell? ⟨g, i, none⟩ = some (.int .u8 (rd xs i)) := by
  obtain ⟨cur, lo, hi', hg, hl, _, ht⟩ := h
  rw [cell_of_row w g i cur e (lo, hi') hg]
  have h2 : (cur.toList.take xs.length)[i]? = (nums .u8 xs)[i]? := by rw [ht]
  rw [List.getElem?_take_of_lt hi, Array.getElem?_toList] at h2
  rw [h2]
  simp [nums, rd, List.getElem?_eq_getElem hi, List.getD_eq_getElem?_getD]
theorem Bts.free {w : World} {e : TypeId} {g : Nat} {xs : List Int} (h : Bts w e g xs) (i : Nat) (hi : i < xs.length) : w.frozen? ⟨g, i, none⟩ = false := by
  obtain ⟨cur, lo, hi', hg, hl, hlo, _⟩ := h
  simp [World.frozen?, hg]
  omega
theorem Bts.set {w : World} {e : TypeId} {g : Nat} {xs : List Int} (h : Bts w e g xs) (i : Nat) (y : Int) : Bts (w.setCell ⟨g, i, none⟩ (.int .u8 y)) e g (xs.set i y) := by
  obtain ⟨cur, lo, hi', hg, hl, hlo, ht⟩ := h
  refine ⟨cur.setIfInBounds i (.int .u8 y), lo, hi', ?_, by simpa using hl, by simpa using hlo, ?_⟩
  · have hlt : g < w.heap.size := (Array.getElem?_eq_some_iff.1 hg).1
    have hv : w.heap[g] = .cells cur e (lo, hi') := (Array.getElem?_eq_some_iff.1 hg).2
    unfold World.setCell
    rw [Array.getElem?_eq_getElem (by simpa using hlt), Array.getElem_modify]
    simp [hv]
  · rw [List.length_set, Array.toList_setIfInBounds, List.take_set, ht]
    simp [nums, List.map_set]
theorem Bts.lt {w : World} {e : TypeId} {g : Nat} {xs : List Int} (h : Bts w e g xs) : g < w.heap.size := by
  obtain ⟨cur, lo, hi', hg, _⟩ := h
  exact (Array.getElem?_eq_some_iff.1 hg).1
theorem Bts.move {w w1 : World} {e : TypeId} {g : Nat} {xs : List Int} (h : Bts w e g xs) (hm : w1.heap[g]? = w.heap[g]?) : Bts w1 e g xs := by
  obtain ⟨cur, lo, hi', hg, r⟩ := h
  exact ⟨cur, lo, hi', hm.trans hg, r⟩
/-- Back to a text. -/
theorem Bts.text {P : Program} {w : World} {e src dst : TypeId} {g cap : Nat} {xs : List Int} (h : Bts w e g xs) (hs : P.underlying src = some (.slice e)) (he : P.underlying e = some (.int .u8)) (hd : P.underlying dst = some .string) :
    (convert src dst (.slice (some ⟨g, 0, none⟩) xs.length cap)).run P w = .ok (.string (strOfNums xs)) w :=
  run_convert_bytes_arg w src e hs he g 0 xs.length cap xs rfl (fun i hi => by
    have := h.cell i hi
    rw [Nat.zero_add]
    exact this) dst hd
end Go.Proofs.YtobidkjmgkmaoaaDoor.Fn
