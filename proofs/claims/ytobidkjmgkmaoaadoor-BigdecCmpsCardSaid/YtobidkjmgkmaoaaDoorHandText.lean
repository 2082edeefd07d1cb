/- The contract of bigdec.text: the digits of a list of limbs, the lowest first. -/
import Derived.Test.YtobidkjmgkmaoaaDoorFn0
import Derived.Test.YtobidkjmgkmaoaaDoorHandTrim
import Derived.Test.YtobidkjmgkmaoaaDoorFnBigdecTrimmedUint64Lo
import Derived.Handy
namespace Go.Proofs.YtobidkjmgkmaoaaDoor.Fn
open Go.RowKit Go.Proofs.YtobidkjmgkmaoaaDoorW.PrintWords Go.Proofs.YtobidkjmgkmaoaaDoorW.PrintLast Go.Proofs.YtobidkjmgkmaoaaDoorW.PrintMore
set_option linter.unusedVariables false
set_option linter.unusedSimpArgs false
/-- A limb's nine digits, the highest first. -/
def limb9 (x : Int) : List Int :=
  [48 + x / 10 / 10 / 10 / 10 / 10 / 10 / 10 / 10 % 10, 48 + x / 10 / 10 / 10 / 10 / 10 / 10 / 10 % 10, 48 + x / 10 / 10 / 10 / 10 / 10 / 10 % 10, 48 + x / 10 / 10 / 10 / 10 / 10 % 10,
   48 + x / 10 / 10 / 10 / 10 % 10, 48 + x / 10 / 10 / 10 % 10, 48 + x / 10 / 10 % 10, 48 + x / 10 % 10, 48 + x % 10]
/-- The limbs' digits, the highest limb first. -/
def limbsText (l : List Int) : List Int := (l.reverse.map limb9).flatten
def bigdec_text.f (k : Nat) (l0 : List Int) : Option ByteArray :=
  if l0.length ≤ 100000 ∧ ∀ x ∈ l0, 0 ≤ x ∧ x ≤ 999999999 then (bigdec_trimmed_uint64.f k l0).bind fun l => if l.length ≤ l0.length ∧ ∀ x ∈ l, 0 ≤ x ∧ x ≤ 999999999 then strings_TrimLeft.f (strOfNums (limbsText l)) ⟨#[48]⟩ else none else none
theorem bigdec_text.mono : ∀ a0 k, LeO (bigdec_text.f k a0) (bigdec_text.f (k + 1) a0) := by
  intro a0 k
  unfold bigdec_text.f
  repeat' first
      | (with_reducible exact bigdec_trimmed_uint64.mono _ _)
      | (with_reducible exact LeO.refl _)
      | (with_reducible exact LeO.none _)
      | (with_reducible refine LeO.ite ?_ ?_)
      | (with_reducible refine LeO.bind ?_ (fun _ => ?_))
theorem infoU8 : (Tryd.prog.info? 5).map (fun i => (i.zero, i.size, i.bytes)) = some (some (.int .u8 0), 1, 1) := by kernel_rfl
theorem limb9_length (x : Int) : (limb9 x).length = 9 := rfl
theorem limbsText_length (l : List Int) : (limbsText l).length = 9 * l.length := by
  unfold limbsText
  rw [List.length_flatten, List.map_map]
  have : (List.length ∘ limb9) = fun _ => 9 := by funext x; rfl
  rw [this, List.map_const', List.sum_replicate_nat, List.length_reverse]
  omega
theorem rd_nonneg {l : List Int} (h : ∀ x ∈ l, 0 ≤ x ∧ x ≤ 999999999) (i : Int) : 0 ≤ rd l i ∧ rd l i ≤ 999999999 := by
  unfold rd
  rw [List.getD_eq_getElem?_getD]
  cases hg : l[i.toNat]? with
  | none => simp
  | some x => exact h x (List.mem_of_getElem? hg)
theorem limb_reads (W : World) (x : Int) (t : TypeId) : (Kd.int .u8).C (W.alloc (.cells #[.int .u8 (48 + x / 10 / 10 / 10 / 10 / 10 / 10 / 10 / 10 % 10), .int .u8 (48 + x / 10 / 10 / 10 / 10 / 10 / 10 / 10 % 10), .int .u8 (48 + x / 10 / 10 / 10 / 10 / 10 / 10 % 10), .int .u8 (48 + x / 10 / 10 / 10 / 10 / 10 % 10), .int .u8 (48 + x / 10 / 10 / 10 / 10 % 10), .int .u8 (48 + x / 10 / 10 / 10 % 10), .int .u8 (48 + x / 10 / 10 % 10), .int .u8 (48 + x / 10 % 10), .int .u8 (48 + x % 10)] t)) (some ⟨W.heap.size, 0, none⟩) 9 (limb9 x) := by
  refine Kd.C_of_reads (d := (0 : Int)) (h1 := fun _ => rfl) (⟨rfl, by decide, fun _ => ⟨_, rfl, fun j hj => ?_⟩⟩ : ReadsInt _ .u8 _ 9 (limb9 x))
  rw [add_plain, blk_cell (heap_alloc_new W _) j]
  rcases j with _ | _ | _ | _ | _ | _ | _ | _ | _ | j
  all_goals first | rfl | omega
theorem limbsText_drop (l : List Int) (m : Nat) (h : m < l.length) : limbsText (l.drop m) = limbsText (l.drop (m + 1)) ++ limb9 (rd l m) := by
  unfold limbsText
  rw [List.drop_eq_getElem_cons h]
  have : rd l m = l[m] := by simp [rd, List.getD_eq_getElem?_getD, List.getElem?_eq_getElem h]
  rw [this, List.reverse_cons, List.map_append, List.flatten_append]
  simp only [List.map_cons, List.map_nil, List.flatten_cons, List.flatten_nil, List.append_nil]
set_option maxHeartbeats 4000000 in
set_option maxRecDepth 100000 in
theorem bigdec_text.calls (k : Nat) (A0 : Option Addr) (c0 : Nat) (l0 : List Int) (r : ByteArray) (w : World) (hr0 : Kd.C (Kd.int .u64) w A0 l0.length l0) (hc0 : l0.length ≤ c0) (h : bigdec_text.f k l0 = some r) :
    Calls Tryd.prog 30 #[.slice A0 l0.length c0] w fun e w' => e = .returned (.string r) ∧ Below w.heap.size w w' := by
  unfold bigdec_text.f at h
  split at h
  case isFalse => cases h
  rename_i hl
  obtain ⟨hlen, hpos⟩ := hl
  obtain ⟨l, hl1, h⟩ := Option.bind_eq_some_iff.1 h
  split at h
  case isFalse => cases h
  rename_i hl2
  obtain ⟨hll, hlp⟩ := hl2
  have H1 := Aside0.mk hl1
  have H2 := Aside0.mk h
  have HR := Aside0.mk hr0
  have HP := Aside0.mk hlp
  clear hl1 h hr0 hpos hlp
  go_enter Tryd.func30, Tryd.ntmps30
  go_wp2_with (go_at_call 42; refine (bigdec_trimmed_uint64.calls k (fun _ => True) A0 c0 l0 l _ ⟨A0, c0, rfl, hc0, fun W' hW => (Kd.heap_int .u64).C (fun k hk => hW k trivial hk) HR.out⟩ H1.out).mono ?_; rintro e w1 ⟨v0, rfl, hV, hb⟩; obtain ⟨A1, c1, rfl⟩ := Kd.V_slice hV; have HV := Aside0.mk hV; have HB := Aside0.mk hb; clear hV hb)
  have hC1 := Aside0.mk (Kd.V_reads' HV.out).2.2
  go_loopw [3, 4] (fun v i wr => ∃ j : Nat, j ≤ l.length ∧ i = .int .i64 ((j : Int) - 1) ∧ Aside0 (Kd.R (Kd.int .u8) 5 wr w1.heap.size (fun _ => True) v (limbsText (l.drop j))) ∧ Aside0 (Below w1.heap.size w1 wr)) (fun _ i _ => (intOf i + 1).toNat)
  case atStart => exact ⟨l.length, Nat.le_refl _, rfl, ⟨by rw [List.drop_length]; exact Kd.R_nil _ _ _ _ _⟩, ⟨Below.refl _ _⟩⟩
  case round =>
    obtain ⟨j, hj, rfl, HO, HBR⟩ := hrel
    cases j with
    | zero =>
      have hcv := own_string (P := Tryd.prog) (dst := 9) Tryd.underlying47 Tryd.underlying5 Tryd.underlying9 (Kd.own_of_R HO.out)
      rw [List.drop_zero] at hcv
      go_wp2_with (go_at_call 40; refine (strings_TrimLeft.calls (strOfNums (limbsText l)) ⟨#[48]⟩ r _ H2.out).mono ?_; rintro e w2 ⟨rfl, hb2⟩)
      go_ret
      exact ⟨rfl, below_then (below_then HB.out HB.out.size HBR.out) (Nat.le_trans HB.out.size HBR.out.size) hb2⟩
    | succ m =>
      have hm : m < l.length := hj
      obtain ⟨hx, hx9⟩ := rd_nonneg HP.out (m : Int)
      obtain ⟨ad, rfl, hcell⟩ := Kd.at_int hC1.out (m : Int) (by omega) (by omega)
      have hcw : wr.cell? (ad.add m) = some (.int .u64 (rd l m)) := pw_cell_below HBR.out hcell
      have hdr := Aside0.mk (limbsText_drop l m hm)
      generalize rd l m = x at hcw hx hx9 hdr
      rw [show (((m + 1 : Nat) : Int) - 1) = (m : Int) by omega]
      have hcw2 := fun o => pw_cell_below (below_alloc (Below.refl wr.heap.size wr) o) hcw
      clear hcw hcell
      have hB2 : Below w1.heap.size w1 wr := HBR.out
      go_wp2
      refine wp_loop_rounds 10 ?_
      repeat any_goals (rw [rounds_succ]; go_wp2_with ((with_reducible refine gate_builtin (b := .append) (xs := #[.tmp 33, .tmp 34]) rfl ?_); at_builtin; refine Kd.R_append_rows (Kd.int .u8) (w0 := w1) w1.heap.size rfl (.tmp 33) (.tmp 34) 47 5 (.int .u8 0) 1 rfl Tryd.underlying47 infoU8 rfl (by decide) (by omega) u3 (limbsText (l.drop (m + 1))) (limb9 x) _ _ _ (fun _ => True) (fun _ => False) rfl rfl ?aO ?aR (fun _ _ h => h) (fun _ h => h.elim) (fun _ _ => trivial) ?aB ?aS ?aL ?_; (case aO => exact Kd.R_alloc HO.out _); (case aR => exact limb_reads wr x 65); (case aB => exact HBR.out.alloc HBR.out.size _); (case aS => have := HBR.out.size; simp; omega); (case aL => rw [limbsText_length, List.length_drop]; omega); intro v1 w3 hO3 hB3 hg3 hat3; have HO3 := Aside0.mk hO3; have HB3 := Aside0.mk hB3; clear hO3 hB3 hg3 hat3))
      go_roundw
      case rel => exact ⟨m, by omega, by go_num, ⟨by rw [hdr.out]; exact HO3.out⟩, HB3⟩
      case measure => simp [intOf]
end Go.Proofs.YtobidkjmgkmaoaaDoor.Fn
