-- written by the program xprint.py (this session's), out of the translation. Lean checks it.
import Derived.Test.YtobidkjmgkmaoaaDoorProg
import Derived.Below
import Derived.Deep.Draws
import Derived.Deep.AppendLies
import Derived.Maps.AppendAt
import Derived.OwnWalk
import Derived.Laws.BytesArg
import Derived.Laws.MakeOwn
import Derived.Laws.OwnMore
import Derived.Deep.OwnRows
import Derived.Tactics
import Derived.Lib.ConvBytes
import Derived.Laws.Slices
import Derived.WalkKit
import Derived.KernelRfl
import Derived.RowKit3
import Derived.Deep.LoopGhost
import Derived.Deep.QuietTactic
import Derived.BigQuiet
import Derived.WideLaws
import Derived.Deep.DeepCutAuto
import Derived.Deep.CutBlock
import Derived.Deep.RegionHeld3
import Derived.Laws.Rows
import Derived.Lib.AppendStr
import Derived.ArgAppend
import Derived.Laws.IdiomCopy
import Derived.OrdersHeld
import Derived.Laws.BitsLemmas
import Derived.RowKit
import Derived.Lib.BufferWrite
import Derived.Laws.CopyOwn
import Derived.Deep.RegionLaw
import Derived.Test.YtobidkjmgkmaoaaDoorWWords
import Derived.Test.YtobidkjmgkmaoaaDoorWLast
import Derived.Test.YtobidkjmgkmaoaaDoorWTab
import Derived.Test.YtobidkjmgkmaoaaDoorWFour
import Derived.Test.YtobidkjmgkmaoaaDoorWQPut
import Derived.Test.YtobidkjmgkmaoaaDoorWApart
import Derived.Test.YtobidkjmgkmaoaaDoorWArr
import Derived.Test.YtobidkjmgkmaoaaDoorWZeros
import Derived.Test.YtobidkjmgkmaoaaDoorWFoot
import Derived.Test.YtobidkjmgkmaoaaDoorWKept
import Derived.Test.YtobidkjmgkmaoaaDoorWShare
import Derived.Test.YtobidkjmgkmaoaaDoorWN
import Derived.Test.YtobidkjmgkmaoaaDoorWFootNe
import Derived.Test.YtobidkjmgkmaoaaDoorWAt
import Derived.Test.YtobidkjmgkmaoaaDoorWEqStruct
import Derived.Test.YtobidkjmgkmaoaaDoorWRepsOne
import Derived.Test.YtobidkjmgkmaoaaDoorWInv
import Derived.Test.YtobidkjmgkmaoaaDoorWInvWords
import Derived.Test.YtobidkjmgkmaoaaDoorWGuard
import Derived.Test.YtobidkjmgkmaoaaDoorWNEv
import Derived.Test.YtobidkjmgkmaoaaDoorWMore
namespace Go.Proofs.YtobidkjmgkmaoaaDoor.Fn
open Go.RowKit Go.Proofs.YtobidkjmgkmaoaaDoorW.PrintWords Go.Proofs.YtobidkjmgkmaoaaDoorW.PrintLast Go.Proofs.YtobidkjmgkmaoaaDoorW.PrintMore
attribute [local go_sem] max2_int min2_int max_two min_two max_three min_three max_four min_four   -- for this text's walks alone
set_option linter.unusedVariables false
set_option linter.unusedSimpArgs false



def errW : Option Int → Value
  | none => .nilIface
  | some c => .iface 0 (.int .i64 c)
theorem errW_none : errW none = .nilIface := rfl
theorem errW_some (c : Int) : errW (some c) = .iface 0 (.int .i64 c) := rfl

theorem info5 : (Tryd.prog.info? 5).map (fun i => (i.zero, i.size, i.bytes)) = some (some (.int .u8 0), 1, 1) := by kernel_rfl
theorem info31 : (Tryd.prog.info? 31).map (fun i => (i.zero, i.size, i.bytes)) = some (some (.int .u64 0), 1, 8) := by kernel_rfl
-- the values' own types

/-- 'copy(xs[k:], s)' of a text that fits. -/
def cpyAt (xs : List Int) (k : Nat) (s : ByteArray) : List Int := xs.take k ++ bytesOf s ++ xs.drop (k + s.size)
theorem byteCells_bytesOf (s : ByteArray) : Lib.byteCells s.data.toList = nums .u8 (bytesOf s) := by
  simp [Lib.byteCells, nums, bytesOf]
theorem Kd.R_copyAt {W : World} {base e g n cap : Nat} {ok : Nat → Prop} {xs : List Int} (h : (Kd.int .u8).R e W base ok (.slice (some ⟨g, 0, none⟩) n cap) xs) (s : ByteArray) (hn : s.size + 1 ≤ n) :
    ∃ cur, W.heap[g]? = some (.cells cur e (0, 0)) ∧ 1 + s.size ≤ cur.size ∧ base ≤ g ∧
      (Kd.int .u8).R e (W.setRow g (cur.toList.take 1 ++ Lib.byteCells s.data.toList ++ cur.toList.drop (1 + s.size)).toArray) base ok (.slice (some ⟨g, 0, none⟩) n cap) (cpyAt xs 1 s) := by
  obtain ⟨rfl, _⟩ := Kd.R_reads' h
  have h0 := h.1
  obtain ⟨h1, h2⟩ := Kd.own_of_R h
  rcases h2 with ⟨he, _⟩ | ⟨g', cap', cur, he, hb, hg, hnc, hcm, hcs, htk⟩
  · cases he
  · injection he with he1 _ he3
    injection he1 with he1
    injection he1 with he1
    subst he1; subst he3
    have hbl : (Lib.byteCells s.data.toList).length = s.size := by rw [byteCells_bytesOf, nums_length, bytesOf_length]
    have hcl : cur.toList.length = cap := by rw [Array.length_toList]; omega
    have hlen : (cpyAt xs 1 s).length = xs.length := by
      unfold cpyAt
      rw [List.length_append, List.length_append, bytesOf_length, List.length_take, List.length_drop]
      omega
    refine ⟨cur, hg, by omega, hb, ?_⟩
    have key : (W.setRow g (cur.toList.take 1 ++ Lib.byteCells s.data.toList ++ cur.toList.drop (1 + s.size)).toArray).ownsRow base e 1 (.slice (some ⟨g, 0, none⟩) xs.length cap) xs.length (encs (Value.int .u8) (cpyAt xs 1 s)) := by
      refine ⟨by simp [encs, hlen], .inr ⟨g, cap, _, rfl, hb, setRow_heap W g cur _ e (0, 0) hg, hnc, hcm, ?_, ?_⟩⟩
      · simp only [List.size_toArray, List.length_append, List.length_take, List.length_drop, hbl, hcl]
        omega
      · have hle : (cur.toList.take 1 ++ Lib.byteCells s.data.toList).length = 1 + s.size := by
          rw [List.length_append, hbl, List.length_take]; omega
        rw [Nat.mul_one] at htk ⊢
        have hx : encs (Value.int .u8) (cpyAt xs 1 s) = (encs (Value.int .u8) xs).take 1 ++ Lib.byteCells s.data.toList ++ (encs (Value.int .u8) xs).drop (1 + s.size) := by
          rw [byteCells_bytesOf]
          simp [encs, cpyAt, nums, List.map_take, List.map_drop]
        rw [hx, ← htk, List.take_append, hle, List.take_of_length_le (by rw [hle]; omega), List.take_take, List.drop_take, Nat.min_eq_left (by omega)]
    rw [← hlen] at key
    have := Kd.R_of_own (h1 := fun _ => rfl) key h0
    rw [hlen] at this
    exact this
theorem step_copyAt {P : Program} {ops : Array Oper} {o : Oper} {a : Act} {w0 w : World} {K : Act → World → Prop} {Q : Exit → Act → World → Prop} {E : Prop}
    (hgd : o.guard = none) (d x : Operand) (dT sT : TypeId) (hop : o.op = Op.call { callee := Callee.builtin Builtin.copy, args := #[d, x], argTypes := #[dT, sT] })
    (e : TypeId) (hu : P.underlying dT = some (.slice e)) (hz : (P.info? e).map (·.size) = some 1)
    {base g n cap : Nat} {xs : List Int} {A : Option Addr} {dLen dCap : Nat} (hd : a.eval d = .slice A dLen dCap) (hA : A = some ⟨g, 1, none⟩) (s : ByteArray) (hx : a.eval x = .string s) (hle : s.size ≤ dLen) (hn : s.size + 1 ≤ n)
    (HO : (Kd.int .u8).R e w base (fun _ => True) (.slice (some ⟨g, 0, none⟩) n cap) xs) (HB : Below base w0 w)
    (hK : ∀ w1, (Kd.int .u8).R e w1 base (fun _ => True) (.slice (some ⟨g, 0, none⟩) n cap) (cpyAt xs 1 s) → w.grownBy w1 (some g) → Below base w0 w1 → K (a.put o.dst (goInt s.size)) w1) :
    if Region.wanted o (yielded ops a.tmps) = true then Oper.wp P o a w K Q else E := by
  have hw : Region.wanted o (yielded ops a.tmps) = true := by simp [Region.wanted, hgd]
  rw [if_pos hw]
  subst hA
  obtain ⟨cur, hg, hfit, hb, hR⟩ := Kd.R_copyAt HO s hn
  have hrun := Lib.run_copy_row_string (P := P) w dT sT o.type e g 1 dLen dCap s cur e hu hz hg hle hfit
  unfold Oper.wp
  simp [execOp, hop, resolve, invoke, builtin, hd, hx, hrun, Result.andThen]
  rw [List.append_assoc] at hR
  exact hK _ hR ⟨rfl, rfl, rfl, by simp, fun k _ hk => setRow_other w g k _ (fun e_ => hk (by rw [e_]))⟩ (below_setRow HB hb _)
section
variable {P : Program} {ops : Array Oper} {rest : List Oper} {o : Oper} {a : Act} {Q : Exit → Act → World → Prop}
/-- '[]byte(s)' of a string: a new row that is only read. -/
theorem Kd.V_conv {w0 W : World} (base : Nat) (hgd : o.guard = none) {N : Tmp} (_hd : o.dst = some N) (src dst e : TypeId) (x : Operand) (ho : o.op = .convert src dst x) (s : ByteArray) (hx : a.eval x = .string s)
    {u : TypeDesc} (hsrc : P.underlying src = some u) (hdst : P.underlying dst = some (.slice e)) (he : P.underlying e = some (.int .u8)) (hs : s.size ≤ 9223372036854775807)
    {ok : Nat → Prop} (hfresh : ok W.heap.size) (HB : Below base w0 W) (hbase : base ≤ W.heap.size)
    (h : ∀ v1 w1, Kd.V (Kd.int .u8) e w1 base ok v1 (bytesOf s) → Below base w0 w1 → W.grownBy w1 none → (∃ b, v1.ownBlock = some b ∧ W.heap.size ≤ b) → wpList P ops Q rest (a.put o.dst v1) w1) : wpList P ops Q (o :: rest) a W := by
  have hr := print_bytes (P := P) src dst e hsrc hdst he s W
  have hlen : (bytesOf s).length = s.size := bytesOf_length s
  refine Kd.event_run hgd (by simp [execOp, ho, hx, hr]) (h (.slice (some ⟨W.heap.size, 0, none⟩) s.size (grownCap W s.size 0 e)) (Lib.bytesWorld W e s) ⟨some ⟨W.heap.size, 0, none⟩, grownCap W s.size 0 e, by rw [hlen], by rw [hlen]; exact grownCap_ge W s.size 0 e, fun W' hW => ?_⟩ (bytes_below HB hbase e s) (grown_of_below (bytes_below (Below.refl _ _) (Nat.le_refl _) e s) none) ⟨W.heap.size, rfl, Nat.le_refl _⟩)
  have hh := hW W.heap.size hfresh (by rw [Lib.bytesWorld_size]; omega)
  obtain ⟨h1, h2, h3⟩ := bytes_reads W e s hs
  rw [hlen]
  refine Kd.C_of_reads (d := (0 : Int)) (h1 := fun _ => rfl) (⟨h1, h2, fun hn => ?_⟩ : ReadsInt W' .u8 (some ⟨W.heap.size, 0, none⟩) s.size (bytesOf s))
  obtain ⟨ad, hA, hc⟩ := h3 hn
  refine ⟨ad, hA, fun j hj => ?_⟩
  have := hc j hj
  injection hA with hA
  subst hA
  rw [add_plain] at this ⊢
  simp only [World.cell?] at this ⊢
  rw [hh]
  exact this
end

end Go.Proofs.YtobidkjmgkmaoaaDoor.Fn
