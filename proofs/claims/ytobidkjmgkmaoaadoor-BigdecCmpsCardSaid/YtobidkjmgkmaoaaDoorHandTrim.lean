/- The contracts of strings.TrimLeft, TrimRight at a cutset of one ASCII byte, and strings.Compare, in the form of the printed ones: out of the shelf's. -/
import Derived.Test.YtobidkjmgkmaoaaDoorFn0
import Derived.Test.YtobidkjmgkmaoaaDoorShelf
namespace Go.Proofs.YtobidkjmgkmaoaaDoor.Fn
open Go.RowKit Go.Proofs.YtobidkjmgkmaoaaDoorW.PrintWords
def strings_TrimLeft.f (s c : ByteArray) : Option ByteArray :=
  match c.data.toList with
  | [b] => if b.toNat < 128 then some ⟨(Lib.trimLeftB s.data.toList b).toArray⟩ else none
  | _ => none
def strings_TrimRight.f (s c : ByteArray) : Option ByteArray :=
  match c.data.toList with
  | [b] => if b.toNat < 128 ∧ s.size ≤ 9223372036854775807 then some ⟨(Lib.trimRightB s.data.toList b).toArray⟩ else none
  | _ => none
def strings_Compare.f (a b : ByteArray) : Option Int := some (Lib.compareBytes a.data.toList b.data.toList)
theorem one_byte {c : ByteArray} {b : UInt8} (h : c.data.toList = [b]) : c = ⟨#[b]⟩ := by
  rcases c with ⟨⟨l⟩⟩
  simp at h
  rw [h]
theorem strings_TrimLeft.calls (a0 a1 r : ByteArray) (w : World) (h : strings_TrimLeft.f a0 a1 = some r) :
    Calls Tryd.prog 40 #[.string a0, .string a1] w fun e w' => e = .returned (.string r) ∧ Below w.heap.size w w' := by
  unfold strings_TrimLeft.f at h
  split at h
  · rename_i b hb
    split at h
    · rename_i hlt
      obtain rfl := one_byte hb
      obtain rfl := Option.some.inj h
      refine (Tryd.strings_TrimLeft_one a0 b hlt w).mono ?_
      rintro e w' ⟨rfl, rfl⟩
      exact ⟨rfl, Below.refl _ _⟩
    · cases h
  · cases h
theorem strings_TrimRight.calls (a0 a1 r : ByteArray) (w : World) (h : strings_TrimRight.f a0 a1 = some r) :
    Calls Tryd.prog 41 #[.string a0, .string a1] w fun e w' => e = .returned (.string r) ∧ Below w.heap.size w w' := by
  unfold strings_TrimRight.f at h
  split at h
  · rename_i b hb
    split at h
    · rename_i hlt
      obtain rfl := one_byte hb
      obtain rfl := Option.some.inj h
      refine (Tryd.strings_TrimRight_one a0 b hlt.1 w hlt.2).mono ?_
      rintro e w' ⟨rfl, rfl⟩
      exact ⟨rfl, Below.refl _ _⟩
    · cases h
  · cases h
theorem strings_Compare.calls (a0 a1 : ByteArray) (r : Int) (w : World) (h : strings_Compare.f a0 a1 = some r) :
    Calls Tryd.prog 46 #[.string a0, .string a1] w fun e w' => e = .returned (.int .i64 r) ∧ Below w.heap.size w w' := by
  obtain rfl := Option.some.inj h
  refine (Tryd.strings_Compare a0 a1 w).mono ?_
  rintro e w' ⟨rfl, rfl⟩
  exact ⟨rfl, Below.refl _ _⟩
end Go.Proofs.YtobidkjmgkmaoaaDoor.Fn
