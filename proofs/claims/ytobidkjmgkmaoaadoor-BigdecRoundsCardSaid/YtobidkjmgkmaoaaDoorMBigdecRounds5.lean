/- The law BigdecRounds: the walks through its functions and its plain law (part 5). Own texts and the kit's printed words for this seat, without what the law does not use: put together by merge.py (of this work). -/
import Derived.Test.YtobidkjmgkmaoaaDoorMBigdecRounds4
import Derived.Handy
section
namespace Go.Proofs.YtobidkjmgkmaoaaDoor.Fn
open Go.RowKit Go.Proofs.YtobidkjmgkmaoaaDoorW.PrintWords Go.Proofs.YtobidkjmgkmaoaaDoorW.PrintLast Go.Proofs.YtobidkjmgkmaoaaDoorW.PrintMore
set_option linter.unusedVariables false
set_option linter.unusedSimpArgs false
def limb9 (x : Int) : List Int :=
  [48 + x / 10 / 10 / 10 / 10 / 10 / 10 / 10 / 10 % 10, 48 + x / 10 / 10 / 10 / 10 / 10 / 10 / 10 % 10, 48 + x / 10 / 10 / 10 / 10 / 10 / 10 % 10, 48 + x / 10 / 10 / 10 / 10 / 10 % 10,
   48 + x / 10 / 10 / 10 / 10 % 10, 48 + x / 10 / 10 / 10 % 10, 48 + x / 10 / 10 % 10, 48 + x / 10 % 10, 48 + x % 10]
def limbsText (l : List Int) : List Int := (l.reverse.map limb9).flatten
def bigdec_text.f (k : Nat) (l0 : List Int) : Option ByteArray :=
  if l0.length ≤ 100000 ∧ ∀ x ∈ l0, 0 ≤ x ∧ x ≤ 999999999 then (bigdec_trimmed_uint64.f k l0).bind fun l => if l.length ≤ l0.length ∧ ∀ x ∈ l, 0 ≤ x ∧ x ≤ 999999999 then strings_TrimLeft.f (strOfNums (limbsText l)) ⟨#[48]⟩ else none else none
theorem bigdec_text.mono : ∀ a0 k, LeO (bigdec_text.f k a0) (bigdec_text.f (k + 1) a0) := by
  intro a0 k
  unfold bigdec_text.f
  repeat' first
      | (with_reducible exact bigdec_trimmed_uint64.mono _ _)
      | (with_reducible exact LeO.refl _)
      | (with_reducible exact LeO.none _)
      | (with_reducible refine LeO.ite ?_ ?_)
      | (with_reducible refine LeO.bind ?_ (fun _ => ?_))
theorem infoU8 : (Tryd.prog.info? 5).map (fun i => (i.zero, i.size, i.bytes)) = some (some (.int .u8 0), 1, 1) := by kernel_rfl
theorem limbsText_length (l : List Int) : (limbsText l).length = 9 * l.length := by
  unfold limbsText
  rw [List.length_flatten, List.map_map]
  have : (List.length ∘ limb9) = fun _ => 9 := by funext x; rfl
  rw [this, List.map_const', List.sum_replicate_nat, List.length_reverse]
  omega
theorem rd_nonneg {l : List Int} (h : ∀ x ∈ l, 0 ≤ x ∧ x ≤ 999999999) (i : Int) : 0 ≤ rd l i ∧ rd l i ≤ 999999999 := by
  unfold rd
  rw [List.getD_eq_getElem?_getD]
  cases hg : l[i.toNat]? with
  | none => simp
  | some x => exact h x (List.mem_of_getElem? hg)
theorem limb_reads (W : World) (x : Int) (t : TypeId) : (Kd.int .u8).C (W.alloc (.cells #[.int .u8 (48 + x / 10 / 10 / 10 / 10 / 10 / 10 / 10 / 10 % 10), .int .u8 (48 + x / 10 / 10 / 10 / 10 / 10 / 10 / 10 % 10), .int .u8 (48 + x / 10 / 10 / 10 / 10 / 10 / 10 % 10), .int .u8 (48 + x / 10 / 10 / 10 / 10 / 10 % 10), .int .u8 (48 + x / 10 / 10 / 10 / 10 % 10), .int .u8 (48 + x / 10 / 10 / 10 % 10), .int .u8 (48 + x / 10 / 10 % 10), .int .u8 (48 + x / 10 % 10), .int .u8 (48 + x % 10)] t)) (some ⟨W.heap.size, 0, none⟩) 9 (limb9 x) := by
  refine Kd.C_of_reads (d := (0 : Int)) (h1 := fun _ => rfl) (⟨rfl, by decide, fun _ => ⟨_, rfl, fun j hj => ?_⟩⟩ : ReadsInt _ .u8 _ 9 (limb9 x))
  rw [add_plain, blk_cell (heap_alloc_new W _) j]
  rcases j with _ | _ | _ | _ | _ | _ | _ | _ | _ | j
  all_goals first | rfl | omega
theorem limbsText_drop (l : List Int) (m : Nat) (h : m < l.length) : limbsText (l.drop m) = limbsText (l.drop (m + 1)) ++ limb9 (rd l m) := by
  unfold limbsText
  rw [List.drop_eq_getElem_cons h]
  have : rd l m = l[m] := by simp [rd, List.getD_eq_getElem?_getD, List.getElem?_eq_getElem h]
  rw [this, List.reverse_cons, List.map_append, List.flatten_append]
  simp only [List.map_cons, List.map_nil, List.flatten_cons, List.flatten_nil, List.append_nil]
set_option maxHeartbeats 4000000 in
set_option maxRecDepth 100000 in
theorem bigdec_text.calls (k : Nat) (A0 : Option Addr) (c0 : Nat) (l0 : List Int) (r : ByteArray) (w : World) (hr0 : Kd.C (Kd.int .u64) w A0 l0.length l0) (hc0 : l0.length ≤ c0) (h : bigdec_text.f k l0 = some r) :
    Calls Tryd.prog 30 #[.slice A0 l0.length c0] w fun e w' => e = .returned (.string r) ∧ Below w.heap.size w w' := by
  unfold bigdec_text.f at h
  split at h
  case isFalse => cases h
  rename_i hl
  obtain ⟨hlen, hpos⟩ := hl
  obtain ⟨l, hl1, h⟩ := Option.bind_eq_some_iff.1 h
  split at h
  case isFalse => cases h
  rename_i hl2
  obtain ⟨hll, hlp⟩ := hl2
  have H1 := Aside0.mk hl1
  have H2 := Aside0.mk h
  have HR := Aside0.mk hr0
  have HP := Aside0.mk hlp
  clear hl1 h hr0 hpos hlp
  go_enter Tryd.func30, Tryd.ntmps30
  go_wp2_with (go_at_call 42; refine (bigdec_trimmed_uint64.calls k (fun _ => True) A0 c0 l0 l _ ⟨A0, c0, rfl, hc0, fun W' hW => (Kd.heap_int .u64).C (fun k hk => hW k trivial hk) HR.out⟩ H1.out).mono ?_; rintro e w1 ⟨v0, rfl, hV, hb⟩; obtain ⟨A1, c1, rfl⟩ := Kd.V_slice hV; have HV := Aside0.mk hV; have HB := Aside0.mk hb; clear hV hb)
  have hC1 := Aside0.mk (Kd.V_reads' HV.out).2.2
  go_loopw [3, 4] (fun v i wr => ∃ j : Nat, j ≤ l.length ∧ i = .int .i64 ((j : Int) - 1) ∧ Aside0 (Kd.R (Kd.int .u8) 5 wr w1.heap.size (fun _ => True) v (limbsText (l.drop j))) ∧ Aside0 (Below w1.heap.size w1 wr)) (fun _ i _ => (intOf i + 1).toNat)
  case atStart => exact ⟨l.length, Nat.le_refl _, rfl, ⟨by rw [List.drop_length]; exact Kd.R_nil _ _ _ _ _⟩, ⟨Below.refl _ _⟩⟩
  case round =>
    obtain ⟨j, hj, rfl, HO, HBR⟩ := hrel
    cases j with
    | zero =>
      have hcv := own_string (P := Tryd.prog) (dst := 9) Tryd.underlying47 Tryd.underlying5 Tryd.underlying9 (Kd.own_of_R HO.out)
      rw [List.drop_zero] at hcv
      go_wp2_with (go_at_call 40; refine (strings_TrimLeft.calls (strOfNums (limbsText l)) ⟨#[48]⟩ r _ H2.out).mono ?_; rintro e w2 ⟨rfl, hb2⟩)
      go_ret
      exact ⟨rfl, below_then (below_then HB.out HB.out.size HBR.out) (Nat.le_trans HB.out.size HBR.out.size) hb2⟩
    | succ m =>
      have hm : m < l.length := hj
      obtain ⟨hx, hx9⟩ := rd_nonneg HP.out (m : Int)
      obtain ⟨ad, rfl, hcell⟩ := Kd.at_int hC1.out (m : Int) (by omega) (by omega)
      have hcw : wr.cell? (ad.add m) = some (.int .u64 (rd l m)) := pw_cell_below HBR.out hcell
      have hdr := Aside0.mk (limbsText_drop l m hm)
      generalize rd l m = x at hcw hx hx9 hdr
      rw [show (((m + 1 : Nat) : Int) - 1) = (m : Int) by omega]
      have hcw2 := fun o => pw_cell_below (below_alloc (Below.refl wr.heap.size wr) o) hcw
      clear hcw hcell
      have hB2 : Below w1.heap.size w1 wr := HBR.out
      go_wp2
      refine wp_loop_rounds 10 ?_
      repeat any_goals (rw [rounds_succ]; go_wp2_with ((with_reducible refine gate_builtin (b := .append) (xs := #[.tmp 33, .tmp 34]) rfl ?_); at_builtin; refine Kd.R_append_rows (Kd.int .u8) (w0 := w1) w1.heap.size rfl (.tmp 33) (.tmp 34) 47 5 (.int .u8 0) 1 rfl Tryd.underlying47 infoU8 rfl (by decide) (by omega) u3 (limbsText (l.drop (m + 1))) (limb9 x) _ _ _ (fun _ => True) (fun _ => False) rfl rfl ?aO ?aR (fun _ _ h => h) (fun _ h => h.elim) (fun _ _ => trivial) ?aB ?aS ?aL ?_; (case aO => exact Kd.R_alloc HO.out _); (case aR => exact limb_reads wr x 65); (case aB => exact HBR.out.alloc HBR.out.size _); (case aS => have := HBR.out.size; simp; omega); (case aL => rw [limbsText_length, List.length_drop]; omega); intro v1 w3 hO3 hB3 hg3 hat3; have HO3 := Aside0.mk hO3; have HB3 := Aside0.mk hB3; clear hO3 hB3 hg3 hat3))
      go_roundw
      case rel => exact ⟨m, by omega, by go_num, ⟨by rw [hdr.out]; exact HO3.out⟩, HB3⟩
      case measure => simp [intOf]
end Go.Proofs.YtobidkjmgkmaoaaDoor.Fn
end
section
namespace Go.Proofs.YtobidkjmgkmaoaaDoor.Fn
open Go.RowKit Go.Proofs.YtobidkjmgkmaoaaDoorW.PrintWords Go.Proofs.YtobidkjmgkmaoaaDoorW.PrintLast Go.Proofs.YtobidkjmgkmaoaaDoorW.PrintMore
set_option linter.unusedVariables false
set_option linter.unusedSimpArgs false
mutual
def bigdec_Exact.j0 : Nat → Int → Int → Bool → Option (ByteArray × Int × Int)
 | 0, _, _, _ => none
 | k + 1, x0, x1, x15 => if x15 = true then (some ((⟨#[]⟩ : ByteArray), 0, 1)) else ((some (([Int.tmod x0 1000000000, Int.tmod (IntKind.u64.wrap (Int.tdiv x0 1000000000)) 1000000000, IntKind.u64.wrap (Int.tdiv (IntKind.u64.wrap (Int.tdiv x0 1000000000)) 1000000000)] : List Int) : List Int)).bind fun y132 => (if x1 < 0 then (bigdec_Exact.j1 k (wrap64 (-x1)) y132 5 x1) else (bigdec_Exact.j1 k x1 y132 2 0)))
def bigdec_Exact.j1 : Nat → Int → List Int → Int → Int → Option (ByteArray × Int × Int)
 | 0, _, _, _, _ => none
 | k + 1, x1, x6, x7, x8 => bigdec_Exact.l0 k x1 x6 x7 x8
def bigdec_Exact.l0 : Nat → Int → List Int → Int → Int → Option (ByteArray × Int × Int)
 | 0, _, _, _, _ => none
 | k + 1, x1, x6, x7, x8 => if x1 ≥ 8 then ((bigdec_times.f k x6 (IntKind.u64.wrap ((IntKind.u64.wrap ((IntKind.u64.wrap ((IntKind.u64.wrap ((IntKind.u64.wrap ((IntKind.u64.wrap ((IntKind.u64.wrap (x7 * x7)) * x7)) * x7)) * x7)) * x7)) * x7)) * x7))).bind fun t135 => (bigdec_Exact.l0 k (wrap64 (x1 - 8)) t135 x7 x8)) else (bigdec_Exact.l1 k x1 x6 x7 x8)
def bigdec_Exact.l1 : Nat → Int → List Int → Int → Int → Option (ByteArray × Int × Int)
 | 0, _, _, _, _ => none
 | k + 1, x1, x6, x7, x8 => if x1 > 0 then ((bigdec_times.f k x6 x7).bind fun t138 => (bigdec_Exact.l1 k (wrap64 (x1 - 1)) t138 x7 x8)) else ((bigdec_text.f k x6).bind fun t141 => ((bigdec_form.f t141 (wrap64 ((t141.size : Int) + x8))).bind fun bt142 => (some (bt142.1, bt142.2, 0))))
end
def bigdec_Exact.f (k : Nat) (a0 : Int) (a1 : Int) : Option (ByteArray × Int × Int) := if a1 < (-1200) then (bigdec_Exact.j0 k a0 a1 true) else (bigdec_Exact.j0 k a0 a1 (decide (a1 > 1200)))
theorem bigdec_Exact.mono_l : ∀ k, (∀ y0 y1 y2, LeO (bigdec_Exact.j0 k y0 y1 y2) (bigdec_Exact.j0 (k + 1) y0 y1 y2)) ∧ (∀ y0 y1 y2 y3, LeO (bigdec_Exact.j1 k y0 y1 y2 y3) (bigdec_Exact.j1 (k + 1) y0 y1 y2 y3)) ∧ (∀ y0 y1 y2 y3, LeO (bigdec_Exact.l0 k y0 y1 y2 y3) (bigdec_Exact.l0 (k + 1) y0 y1 y2 y3)) ∧ (∀ y0 y1 y2 y3, LeO (bigdec_Exact.l1 k y0 y1 y2 y3) (bigdec_Exact.l1 (k + 1) y0 y1 y2 y3))
 | 0 => ⟨fun _ _ _ r h => by simp [bigdec_Exact.j0] at h, fun _ _ _ _ r h => by simp [bigdec_Exact.j1] at h, fun _ _ _ _ r h => by simp [bigdec_Exact.l0] at h, fun _ _ _ _ r h => by simp [bigdec_Exact.l1] at h⟩
 | k + 1 => by
  obtain ⟨ih0, ih1, ih2, ih3⟩ := bigdec_Exact.mono_l k
  refine ⟨?_, ?_, ?_, ?_⟩
  ·intro y0 y1 y2
   unfold bigdec_Exact.j0
   repeat' first
   | (with_reducible exact ih0 _ _ _)
   | (with_reducible exact ih1 _ _ _ _)
   | (with_reducible exact ih2 _ _ _ _)
   | (with_reducible exact ih3 _ _ _ _)
   | (with_reducible exact bigdec_text.mono _ _)
   | (with_reducible exact bigdec_times.mono _ _ _)
   | (with_reducible exact LeO.refl _)
   | (with_reducible exact LeO.none _)
   | (with_reducible refine LeO.ite ?_ ?_)
   | (with_reducible refine LeO.bind ?_ (fun _ => ?_))
   | exact ih0 _ _ _
   | exact ih1 _ _ _ _
   | exact ih2 _ _ _ _
   | exact ih3 _ _ _ _
   | exact bigdec_text.mono _ _
   | exact bigdec_times.mono _ _ _
   | exact LeO.none _
   | refine LeO.ite ?_ ?_
   | refine LeO.bind ?_ (fun _ => ?_)
  ·intro y0 y1 y2 y3
   unfold bigdec_Exact.j1
   repeat' first
   | (with_reducible exact ih0 _ _ _)
   | (with_reducible exact ih1 _ _ _ _)
   | (with_reducible exact ih2 _ _ _ _)
   | (with_reducible exact ih3 _ _ _ _)
   | (with_reducible exact bigdec_text.mono _ _)
   | (with_reducible exact bigdec_times.mono _ _ _)
   | (with_reducible exact LeO.refl _)
   | (with_reducible exact LeO.none _)
   | (with_reducible refine LeO.ite ?_ ?_)
   | (with_reducible refine LeO.bind ?_ (fun _ => ?_))
   | exact ih0 _ _ _
   | exact ih1 _ _ _ _
   | exact ih2 _ _ _ _
   | exact ih3 _ _ _ _
   | exact bigdec_text.mono _ _
   | exact bigdec_times.mono _ _ _
   | exact LeO.none _
   | refine LeO.ite ?_ ?_
   | refine LeO.bind ?_ (fun _ => ?_)
  ·intro y0 y1 y2 y3
   unfold bigdec_Exact.l0
   repeat' first
   | (with_reducible exact ih0 _ _ _)
   | (with_reducible exact ih1 _ _ _ _)
   | (with_reducible exact ih2 _ _ _ _)
   | (with_reducible exact ih3 _ _ _ _)
   | (with_reducible exact bigdec_text.mono _ _)
   | (with_reducible exact bigdec_times.mono _ _ _)
   | (with_reducible exact LeO.refl _)
   | (with_reducible exact LeO.none _)
   | (with_reducible refine LeO.ite ?_ ?_)
   | (with_reducible refine LeO.bind ?_ (fun _ => ?_))
   | exact ih0 _ _ _
   | exact ih1 _ _ _ _
   | exact ih2 _ _ _ _
   | exact ih3 _ _ _ _
   | exact bigdec_text.mono _ _
   | exact bigdec_times.mono _ _ _
   | exact LeO.none _
   | refine LeO.ite ?_ ?_
   | refine LeO.bind ?_ (fun _ => ?_)
  ·intro y0 y1 y2 y3
   unfold bigdec_Exact.l1
   repeat' first
   | (with_reducible exact ih0 _ _ _)
   | (with_reducible exact ih1 _ _ _ _)
   | (with_reducible exact ih2 _ _ _ _)
   | (with_reducible exact ih3 _ _ _ _)
   | (with_reducible exact bigdec_text.mono _ _)
   | (with_reducible exact bigdec_times.mono _ _ _)
   | (with_reducible exact LeO.refl _)
   | (with_reducible exact LeO.none _)
   | (with_reducible refine LeO.ite ?_ ?_)
   | (with_reducible refine LeO.bind ?_ (fun _ => ?_))
   | exact ih0 _ _ _
   | exact ih1 _ _ _ _
   | exact ih2 _ _ _ _
   | exact ih3 _ _ _ _
   | exact bigdec_text.mono _ _
   | exact bigdec_times.mono _ _ _
   | exact LeO.none _
   | refine LeO.ite ?_ ?_
   | refine LeO.bind ?_ (fun _ => ?_)
theorem bigdec_Exact.mono : ∀ a0 a1 k, LeO (bigdec_Exact.f k a0 a1) (bigdec_Exact.f (k + 1) a0 a1) := by
 intro a0 a1 k
 obtain ⟨ih0, ih1, ih2, ih3⟩ := bigdec_Exact.mono_l k
 unfold bigdec_Exact.f
 repeat' first
   | (with_reducible exact ih0 _ _ _)
   | (with_reducible exact ih1 _ _ _ _)
   | (with_reducible exact ih2 _ _ _ _)
   | (with_reducible exact ih3 _ _ _ _)
   | (with_reducible exact bigdec_text.mono _ _)
   | (with_reducible exact bigdec_times.mono _ _ _)
   | (with_reducible exact LeO.refl _)
   | (with_reducible exact LeO.none _)
   | (with_reducible refine LeO.ite ?_ ?_)
   | (with_reducible refine LeO.bind ?_ (fun _ => ?_))
   | exact ih0 _ _ _
   | exact ih1 _ _ _ _
   | exact ih2 _ _ _ _
   | exact ih3 _ _ _ _
   | exact bigdec_text.mono _ _
   | exact bigdec_times.mono _ _ _
   | exact LeO.none _
   | refine LeO.ite ?_ ?_
   | refine LeO.bind ?_ (fun _ => ?_)
set_option maxHeartbeats 8000000 in
set_option maxRecDepth 100000 in
theorem bigdec_Exact.calls (k : Nat) (a0 : Int) (a1 : Int) (r1 : ByteArray) (r2 : Int) (r3 : Int) (w : World) (h : bigdec_Exact.f k a0 a1 = some (r1, r2, r3)) :
  Calls Tryd.prog 16 #[.int .u64 a0, .int .i64 a1] w fun e w' => e = .returned (.tuple #[.agg #[.string r1, .int .i64 r2], .int .i64 r3]) ∧ Below w.heap.size w w' := by
 have hu23 := Tryd.underlying23
 have HB := Aside0.mk (Below.refl w.heap.size w)
 have H : (if a1 < (-1200) then (bigdec_Exact.j0 k a0 a1 true) else (bigdec_Exact.j0 k a0 a1 (decide (a1 > 1200)))) = some (r1, r2, r3) := h
 clear h
 have HC3 := Aside0.mk H
 clear H
 go_enter Tryd.func16, Tryd.ntmps16
 go_upto_region 1 with (first | ((with_reducible refine gate_dst (N := 4) rfl ?_); refine box_event ?hg (N := 4) ?hd (cs := #[.string (⟨#[]⟩ : ByteArray), .int .i64 0]) (t := 23) ?hr ?_; (case hd => rfl); (case hg => rfl); (case hr => first | (go_simp; done) | (go_simp; rfl)); intro gb131 hg w4 hbox hb; have n0_ := Aside0.mk (below_step (by repeat (first | (with_reducible first | exact HB.out | apply below_alloc | apply pw_below_drewN | apply below_drew1) | exact HB.out)) hb); have n1_ := Aside0.mk (hbox); have n2_ := Aside0.mk ((by rw [hg]; exact (below_size (by repeat (first | (with_reducible first | exact HB.out | apply below_alloc | apply pw_below_drewN | apply below_drew1) | exact HB.out))) : w.heap.size ≤ gb131)); have n3_ := Aside0.mk ((by rw [hg]; exact (below_size (by repeat (first | (with_reducible first | exact HB.out | apply below_alloc | apply pw_below_drewN | apply below_drew1) | exact HB.out))) : w.heap.size ≤ gb131)); clear HB; have HB := n0_; have BK131 := n1_; have GW131 := n2_; have GE131 := n3_; clear n0_ n1_ n2_ n3_; clear hb hbox hg))
 (try simp only [Act.put, List.setIfInBounds_toArray, List.set_cons_zero, List.set_cons_succ])
 go_cut [15] (fun v15 wc => ∃ (kq : Nat) (x15_2 : Bool), v15 = .bool x15_2 ∧ Aside0 (bigdec_Exact.j0 kq a0 a1 x15_2 = some (r1, r2, r3)) ∧ Aside0 (kq ≤ k) ∧ Aside0 (wc.heap[gb131]? = some (.cells #[.string (⟨#[]⟩ : ByteArray), .int .i64 0] 23 (0, 0))) ∧ Aside0 (Below w.heap.size w wc))
 case first =>
  have H := HC3.out
  clear HC3
  by_cases c5 : a1 < (-1200)
  ·rw [if_pos c5] at H
   have c5b0 : decide (a1 < (-1200)) = true := decide_eq_true c5
   clear c5
   (first | rw [c5b0] | (simp only [i64_w, i32_w]; rw [c5b0]) | skip)
   have H' := Aside0.mk H
   clear H
   go_wp2
   go_meet
   case rel => exact ⟨_, (true), (by first | rfl | (simp; done) | (simp [*]; done)), H', ⟨by first | omega | exact Nat.le_refl _⟩, ⟨by (with_reducible repeat (first | refine blk_drewN ?_ _ | refine blk_drew ?_ | refine blk_alloc ?_ _)); exact BK131.out⟩, ⟨by repeat (first | (with_reducible first | exact HB.out | apply below_alloc | apply pw_below_drewN | apply below_drew1 | refine below_set ?_ GE131.out) | exact HB.out)⟩⟩
  ·rw [if_neg c5] at H
   have c5b0 : decide (a1 < (-1200)) = false := decide_eq_false c5
   clear c5
   (first | rw [c5b0] | (simp only [i64_w, i32_w]; rw [c5b0]) | skip)
   have H' := Aside0.mk H
   clear H
   go_wp2
   go_meet
   case rel => exact ⟨_, (decide (a1 > 1200)), (by first | rfl | (simp; done) | (simp [*]; done)), H', ⟨by first | omega | exact Nat.le_refl _⟩, ⟨by (with_reducible repeat (first | refine blk_drewN ?_ _ | refine blk_drew ?_ | refine blk_alloc ?_ _)); exact BK131.out⟩, ⟨by repeat (first | (with_reducible first | exact HB.out | apply below_alloc | apply pw_below_drewN | apply below_drew1 | refine below_set ?_ GE131.out) | exact HB.out)⟩⟩
 case rest =>
  clear HC3
  try clear c5
  try clear c5b0
  obtain ⟨kq, x15_2, rfl, HA, HJ2, BK131, HB⟩ := hcut
  cases kq with
  | zero => exact absurd HA.out (by simp [bigdec_Exact.j0])
  | succ kj2 =>
   have H := HA.out
   clear HA
   simp only [bigdec_Exact.j0] at H
   by_cases c6 : x15_2 = true
   ·subst c6
    have H1 : (some ((⟨#[]⟩ : ByteArray), 0, 1)) = some (r1, r2, r3) := by rw [if_pos rfl] at H; exact H
    clear H
    have H := H1
    clear H1
    simp only [Option.some.injEq, Prod.mk.injEq] at H
    obtain ⟨rfl, rfl, rfl⟩ := H
    have hcz7_0 : wc.cell? ⟨gb131, 0, none⟩ = some (.string (⟨#[]⟩ : ByteArray)) := (blk_cell BK131.out 0).trans rfl
    have hcz7_1 : wc.cell? ⟨gb131, 1, none⟩ = some (.int .i64 0) := (blk_cell BK131.out 1).trans rfl
    have hfz7_0 := blk_frozen BK131.out 0
    have hfz7_1 := blk_frozen BK131.out 1
    go_wp2
    refine bodyPost_ret (results_ct rfl _ _ gb131 23 #[.string (⟨#[]⟩ : ByteArray), .int .i64 0] (0, 0) _ rfl (by (with_reducible repeat (first | refine blk_drewN ?_ _ | refine blk_drew ?_ | refine blk_alloc ?_ _)); refine blk_put (cs := #[.string (⟨#[]⟩ : ByteArray), .int .i64 0]) ?_ 1 _ rfl; (with_reducible repeat (first | refine blk_drewN ?_ _ | refine blk_drew ?_ | refine blk_alloc ?_ _)); refine blk_put (cs := #[.string (⟨#[]⟩ : ByteArray), .int .i64 0]) ?_ 0 _ rfl; (with_reducible repeat (first | refine blk_drewN ?_ _ | refine blk_drew ?_ | refine blk_alloc ?_ _)); exact BK131.out) Tryd.underlying23 rfl (by kernel_rfl)) rfl ?_
    exact ⟨by first | rfl | (simp [errW_none, errW_some] <;> rfl) | (simp [*, errW_none, errW_some] <;> rfl), by repeat (first | (with_reducible first | exact HB.out | apply below_alloc | apply pw_below_drewN | apply below_drew1 | refine below_set ?_ GE131.out) | exact HB.out)⟩
   ·replace c6 := Bool.eq_false_iff.mpr c6
    subst c6
    have H1 : ((some (([Int.tmod a0 1000000000, Int.tmod (IntKind.u64.wrap (Int.tdiv a0 1000000000)) 1000000000, IntKind.u64.wrap (Int.tdiv (IntKind.u64.wrap (Int.tdiv a0 1000000000)) 1000000000)] : List Int) : List Int)).bind fun y132 => (if a1 < 0 then (bigdec_Exact.j1 kj2 (wrap64 (-a1)) y132 5 a1) else (bigdec_Exact.j1 kj2 a1 y132 2 0))) = some (r1, r2, r3) := by rw [if_neg (show ¬ (false = true) by decide)] at H; exact H
    clear H
    have H := H1
    clear H1
    obtain ⟨y132, hy132⟩ : ∃ y_ : List Int, y_ = (([Int.tmod a0 1000000000, Int.tmod (IntKind.u64.wrap (Int.tdiv a0 1000000000)) 1000000000, IntKind.u64.wrap (Int.tdiv (IntKind.u64.wrap (Int.tdiv a0 1000000000)) 1000000000)] : List Int)) := ⟨_, rfl⟩
    replace H : (if a1 < 0 then (bigdec_Exact.j1 kj2 (wrap64 (-a1)) y132 5 a1) else (bigdec_Exact.j1 kj2 a1 y132 2 0)) = some (r1, r2, r3) := by first | (rw [hy132]; with_reducible exact H) | (have H2_ := (Option.bind_some _ _).symm.trans H; rw [hy132]; with_reducible exact H2_) | (have H2_ := (Option.bind_some _ _).symm.trans H; with_reducible exact H2_) | with_reducible exact H | (rw [hy132]; exact H) | exact H
    have Ny132 := Aside0.mk hy132
    clear hy132
    have HC8 := Aside0.mk H
    clear H
    go_upto_if 27 with (first | ((with_reducible refine gate_dst (N := 25) rfl ?_); refine Kd.R_lit (Kd.int .u64) _ 31 ?hg (N := 25) ?hd (xs := ([Int.tmod a0 1000000000, Int.tmod (IntKind.u64.wrap (Int.tdiv a0 1000000000)) 1000000000, IntKind.u64.wrap (Int.tdiv (IntKind.u64.wrap (Int.tdiv a0 1000000000)) 1000000000)] : List Int)) (inner := [.int .u64 (Int.tmod a0 1000000000), .int .u64 (Int.tmod (IntKind.u64.wrap (Int.tdiv a0 1000000000)) 1000000000), .int .u64 (IntKind.u64.wrap (Int.tdiv (IntKind.u64.wrap (Int.tdiv a0 1000000000)) 1000000000))]) (ok := fun _ => True) (okp := fun _ => True) ?hr ?hp (fun _ hk => hk) trivial (Below.refl _ _) (Nat.le_refl _) (by simp) ?_; (case hd => rfl); (case hg => rfl); (case hr => first | (go_simp; done) | (go_simp; rfl)); (case hp => exact (Reps.one (show Kd.M (Kd.int .u64) _ _ _ (Int.tmod a0 1000000000) [.int .u64 (Int.tmod a0 1000000000)] from rfl) (Reps.one (show Kd.M (Kd.int .u64) _ _ _ (Int.tmod (IntKind.u64.wrap (Int.tdiv a0 1000000000)) 1000000000) [.int .u64 (Int.tmod (IntKind.u64.wrap (Int.tdiv a0 1000000000)) 1000000000)] from rfl) (Reps.one (show Kd.M (Kd.int .u64) _ _ _ (IntKind.u64.wrap (Int.tdiv (IntKind.u64.wrap (Int.tdiv a0 1000000000)) 1000000000)) [.int .u64 (IntKind.u64.wrap (Int.tdiv (IntKind.u64.wrap (Int.tdiv a0 1000000000)) 1000000000))] from rfl) (Reps.none _ _))))); intro v133 w9 ho10 hb hg_ hnew_; clear hg_ hnew_; (first | rw [← Ny132.out] at ho10 | (simp only [Int.reduceToNat] at ho10; rw [← Ny132.out] at ho10)); have n0_ := Aside0.mk (Kd.R_lower ho10 (below_size (by repeat (first | (with_reducible first | exact HB.out | apply below_alloc | apply pw_below_drewN | apply below_drew1 | refine below_set ?_ GE131.out) | exact HB.out)))); have n1_ := Aside0.mk (blk_below (g := gb131) (o := .cells #[.string (⟨#[]⟩ : ByteArray), .int .i64 0] 23 (0, 0)) (by (with_reducible repeat (first | refine blk_drewN ?_ _ | refine blk_drew ?_ | refine blk_alloc ?_ _)); exact BK131.out) hb); have n2_ := Aside0.mk (below_step (by repeat (first | (with_reducible first | exact HB.out | apply below_alloc | apply pw_below_drewN | apply below_drew1 | refine below_set ?_ GE131.out) | exact HB.out)) hb); clear BK131; clear HB; have HO134 := n0_; have BK131 := n1_; have HB := n2_; clear n0_ n1_ n2_; clear hb ho10))
    (try simp only [Act.put, List.setIfInBounds_toArray, List.set_cons_zero, List.set_cons_succ])
    go_cut [1, 7, 8] (fun v1 v7 v8 wc => ∃ (kq : Nat) (x1_7 : Int) (x7_7 : Int) (x8_7 : Int), v1 = .int .i64 x1_7 ∧ v7 = .int .u64 x7_7 ∧ v8 = .int .i64 x8_7 ∧ Aside0 (bigdec_Exact.j1 kq x1_7 y132 x7_7 x8_7 = some (r1, r2, r3)) ∧ Aside0 (kq ≤ kj2) ∧ Aside0 (Kd.R (Kd.int .u64) 31 wc w.heap.size (fun _ => True) v133 y132) ∧ Aside0 (wc.heap[gb131]? = some (.cells #[.string (⟨#[]⟩ : ByteArray), .int .i64 0] 23 (0, 0))) ∧ Aside0 (Below w.heap.size w wc))
    case first =>
     have H := HC8.out
     clear HC8
     by_cases c11 : a1 < 0
     ·rw [if_pos c11] at H
      have c11b0 : decide (a1 < 0) = true := decide_eq_true c11
      clear c11
      (first | rw [c11b0] | (simp only [i64_w, i32_w]; rw [c11b0]) | skip)
      have H' := Aside0.mk H
      clear H
      go_wp2
      go_meet
      case rel => exact ⟨_, (wrap64 (-a1)), (5), (a1), (by first | rfl | (simp; done) | (simp [*]; done)), (by first | rfl | (simp; done) | (simp [*]; done)), (by first | rfl | (simp; done) | (simp [*]; done)), H', ⟨by have := HJ2.out; first | omega | exact Nat.le_refl _⟩, ⟨by (with_reducible repeat (first | apply Kd.R_alloc | apply Kd.R_drewN | apply Kd.R_drew)); exact HO134.out⟩, ⟨by (with_reducible repeat (first | refine blk_drewN ?_ _ | refine blk_drew ?_ | refine blk_alloc ?_ _)); exact BK131.out⟩, ⟨by repeat (first | (with_reducible first | exact HB.out | apply below_alloc | apply pw_below_drewN | apply below_drew1 | refine below_set ?_ GE131.out) | exact HB.out)⟩⟩
     ·rw [if_neg c11] at H
      have c11b0 : decide (a1 < 0) = false := decide_eq_false c11
      clear c11
      (first | rw [c11b0] | (simp only [i64_w, i32_w]; rw [c11b0]) | skip)
      have H' := Aside0.mk H
      clear H
      go_wp2
      go_meet
      case rel => exact ⟨_, (a1), (2), (0), (by first | rfl | (simp; done) | (simp [*]; done)), (by first | rfl | (simp; done) | (simp [*]; done)), (by first | rfl | (simp; done) | (simp [*]; done)), H', ⟨by have := HJ2.out; first | omega | exact Nat.le_refl _⟩, ⟨by (with_reducible repeat (first | apply Kd.R_alloc | apply Kd.R_drewN | apply Kd.R_drew)); exact HO134.out⟩, ⟨by (with_reducible repeat (first | refine blk_drewN ?_ _ | refine blk_drew ?_ | refine blk_alloc ?_ _)); exact BK131.out⟩, ⟨by repeat (first | (with_reducible first | exact HB.out | apply below_alloc | apply pw_below_drewN | apply below_drew1 | refine below_set ?_ GE131.out) | exact HB.out)⟩⟩
    case rest =>
     clear HC8
     try clear c5
     try clear c5b0
     try clear c6
     try clear c11
     try clear c11b0
     try clear hcz7_0
     try clear hcz7_1
     try clear hfz7_0
     try clear hfz7_1
     obtain ⟨kq, x1_7, x7_7, x8_7, rfl, rfl, rfl, HA, HJ7, HO_6, BK131, HB⟩ := hcut
     cases kq with
     | zero => exact absurd HA.out (by simp [bigdec_Exact.j1])
     | succ kj7 =>
      have H := HA.out
      clear HA
      simp only [bigdec_Exact.j1] at H
      have H' := Aside0.mk H
      clear H
      go_wp2
      go_loopg [1, 6] kj7 (fun kq v1 v6 w' => ∃ (x1_3 : Int) (x6_3 : List Int), v1 = .int .i64 x1_3 ∧ Aside0 (bigdec_Exact.l0 kq x1_3 x6_3 x7_7 x8_7 = some (r1, r2, r3)) ∧ Aside0 (kq ≤ kj7) ∧ Aside0 (Kd.R (Kd.int .u64) 31 w' w.heap.size (fun _ => True) v6 x6_3) ∧ Aside0 (w'.heap[gb131]? = some (.cells #[.string (⟨#[]⟩ : ByteArray), .int .i64 0] 23 (0, 0))) ∧ Aside0 (Below w.heap.size w w'))
      case atStart => exact ⟨(x1_7), (y132), (by first | rfl | (simp; done) | (simp [*]; done)), H', ⟨Nat.le_refl _⟩, ⟨by (with_reducible repeat (first | apply Kd.R_alloc | apply Kd.R_drewN | apply Kd.R_drew)); exact HO_6.out⟩, ⟨by (with_reducible repeat (first | refine blk_drewN ?_ _ | refine blk_drew ?_ | refine blk_alloc ?_ _)); exact BK131.out⟩, ⟨by repeat (first | (with_reducible first | exact HB.out | apply below_alloc | apply pw_below_drewN | apply below_drew1 | refine below_set ?_ GE131.out) | exact HB.out)⟩⟩
      case round =>
       clear H'
       try clear c5
       try clear c5b0
       try clear c6
       try clear c11
       try clear c11b0
       try clear hcz7_0
       try clear hcz7_1
       try clear hfz7_0
       try clear hfz7_1
       obtain ⟨x1_3, x6_3, rfl, HA, HK3, HO_6, BK131, HB⟩ := hrel
       cases gk with
       | zero => exact absurd HA.out (by simp [bigdec_Exact.l0])
       | succ k3 =>
        have H := HA.out
        clear HA
        simp only [bigdec_Exact.l0] at H
        by_cases c12 : x1_3 ≥ 8
        ·rw [if_pos c12] at H
         have c12b0 : decide (8 ≤ x1_3) = true := decide_eq_true c12
         clear c12
         replace H := Option.bind_eq_some_iff.mp H
         obtain ⟨t135, A130, H⟩ := H
         replace H : (bigdec_Exact.l0 k3 (wrap64 (x1_3 - 8)) t135 x7_7 x8_7) = some (r1, r2, r3) := H
         have A13 := Aside0.mk A130
         clear A130
         have H' := Aside0.mk H
         clear H
         obtain ⟨Ao14, co14, eo14⟩ := Kd.R_slice HO_6.out
         subst eo14
         go_wp2_with (first | ((with_reducible refine gate_callee (f := 29) rfl ?_); refine goesL_ (some 51) rfl rfl Tryd.func29 (by kernel_rfl) rfl #[.slice Ao14 x6_3.length co14, .int .u64 (IntKind.u64.wrap ((IntKind.u64.wrap ((IntKind.u64.wrap ((IntKind.u64.wrap ((IntKind.u64.wrap ((IntKind.u64.wrap ((IntKind.u64.wrap (x7_7 * x7_7)) * x7_7)) * x7_7)) * x7_7)) * x7_7)) * x7_7)) * x7_7))] rfl (by (try simp only [List.map_toArray, List.map_cons, List.map_nil]); first | done | rfl | (simp only [List.length_drop, List.length_take]; rfl)) ?_; (with_reducible refine (bigdec_times.calls k3 (fun k_ => some k_ = (.slice Ao14 x6_3.length co14 : Value).ownBlock) (.slice Ao14 x6_3.length co14) x6_3 (IntKind.u64.wrap ((IntKind.u64.wrap ((IntKind.u64.wrap ((IntKind.u64.wrap ((IntKind.u64.wrap ((IntKind.u64.wrap ((IntKind.u64.wrap (x7_7 * x7_7)) * x7_7)) * x7_7)) * x7_7)) * x7_7)) * x7_7)) * x7_7)) t135 w _ ?side1 ?side2 A13.out).mono ?_); (case side1 => repeat (first | (with_reducible first | exact HB.out | apply below_alloc | apply pw_below_drewN | apply below_drew1 | refine below_set ?_ GE131.out) | exact HB.out)); (case side2 => exact Kd.R_tight rfl HO_6.out); rintro e w15 ⟨v136, rfl, ho0, hb, hkp⟩; refine ⟨_, rfl, ?_⟩; have n0_ := Aside0.mk (blk_kept (by (with_reducible repeat (first | refine blk_drewN ?_ _ | refine blk_drew ?_ | refine blk_alloc ?_ _)); exact BK131.out) hkp (fun hs_ => (fun e_ => (Kd.R_ne HO_6.out BK131.out (by decide)) e_) hs_)); have n1_ := Aside0.mk (Kd.R_mono (ok' := fun k_ => True) ho0 (fun k_ hk_ => trivial)); have n2_ := Aside0.mk (hb); clear BK131; clear HB; clear HO_6; have BK131 := n0_; have HO137 := n1_; have HB := n2_; clear n0_ n1_ n2_; (try clear hb); (try clear hkp); (try clear ho0)))
         go_roundg k3
         case measure => have := HJ2.out; have := HJ7.out; have := HK3.out; omega
         case rel => exact ⟨(wrap64 (x1_3 - 8)), (t135), (by first | rfl | (simp; done) | (simp [*]; done)), H', ⟨by have := HJ2.out; have := HJ7.out; have := HK3.out; omega⟩, ⟨by (with_reducible repeat (first | apply Kd.R_alloc | apply Kd.R_drewN | apply Kd.R_drew)); exact HO137.out⟩, ⟨by (with_reducible repeat (first | refine blk_drewN ?_ _ | refine blk_drew ?_ | refine blk_alloc ?_ _)); exact BK131.out⟩, ⟨by repeat (first | (with_reducible first | exact HB.out | apply below_alloc | apply pw_below_drewN | apply below_drew1 | refine below_set ?_ GE131.out) | exact HB.out)⟩⟩
        ·rw [if_neg c12] at H
         have c12b0 : decide (8 ≤ x1_3) = false := decide_eq_false c12
         clear c12
         have H' := Aside0.mk H
         clear H
         go_wp2
         go_loopg [1, 6] k3 (fun kq v1 v6 w' => ∃ (x1_4 : Int) (x6_4 : List Int), v1 = .int .i64 x1_4 ∧ Aside0 (bigdec_Exact.l1 kq x1_4 x6_4 x7_7 x8_7 = some (r1, r2, r3)) ∧ Aside0 (kq ≤ k3) ∧ Aside0 (Kd.R (Kd.int .u64) 31 w' w.heap.size (fun _ => True) v6 x6_4) ∧ Aside0 (w'.heap[gb131]? = some (.cells #[.string (⟨#[]⟩ : ByteArray), .int .i64 0] 23 (0, 0))) ∧ Aside0 (Below w.heap.size w w'))
         case atStart => exact ⟨(x1_3), (x6_3), (by first | rfl | (simp; done) | (simp [*]; done)), H', ⟨Nat.le_refl _⟩, ⟨by (with_reducible repeat (first | apply Kd.R_alloc | apply Kd.R_drewN | apply Kd.R_drew)); exact HO_6.out⟩, ⟨by (with_reducible repeat (first | refine blk_drewN ?_ _ | refine blk_drew ?_ | refine blk_alloc ?_ _)); exact BK131.out⟩, ⟨by repeat (first | (with_reducible first | exact HB.out | apply below_alloc | apply pw_below_drewN | apply below_drew1 | refine below_set ?_ GE131.out) | exact HB.out)⟩⟩
         case round =>
          clear H'
          try clear c5
          try clear c5b0
          try clear c6
          try clear c11
          try clear c11b0
          try clear c12
          try clear c12b0
          try clear hcz7_0
          try clear hcz7_1
          try clear hfz7_0
          try clear hfz7_1
          obtain ⟨x1_4, x6_4, rfl, HA, HK4, HO_6, BK131, HB⟩ := hrel
          cases gk with
          | zero => exact absurd HA.out (by simp [bigdec_Exact.l1])
          | succ k4 =>
           have H := HA.out
           clear HA
           simp only [bigdec_Exact.l1] at H
           by_cases c16 : x1_4 > 0
           ·rw [if_pos c16] at H
            have c16b0 : decide (0 < x1_4) = true := decide_eq_true c16
            clear c16
            replace H := Option.bind_eq_some_iff.mp H
            obtain ⟨t138, A170, H⟩ := H
            replace H : (bigdec_Exact.l1 k4 (wrap64 (x1_4 - 1)) t138 x7_7 x8_7) = some (r1, r2, r3) := H
            have A17 := Aside0.mk A170
            clear A170
            have H' := Aside0.mk H
            clear H
            obtain ⟨Ao18, co18, eo18⟩ := Kd.R_slice HO_6.out
            subst eo18
            go_wp2_with (first | ((with_reducible refine gate_callee (f := 29) rfl ?_); refine goesL_ (some 58) rfl rfl Tryd.func29 (by kernel_rfl) rfl #[.slice Ao18 x6_4.length co18, .int .u64 x7_7] rfl (by (try simp only [List.map_toArray, List.map_cons, List.map_nil]); first | done | rfl | (simp only [List.length_drop, List.length_take]; rfl)) ?_; (with_reducible refine (bigdec_times.calls k4 (fun k_ => some k_ = (.slice Ao18 x6_4.length co18 : Value).ownBlock) (.slice Ao18 x6_4.length co18) x6_4 x7_7 t138 w _ ?side1 ?side2 A17.out).mono ?_); (case side1 => repeat (first | (with_reducible first | exact HB.out | apply below_alloc | apply pw_below_drewN | apply below_drew1 | refine below_set ?_ GE131.out) | exact HB.out)); (case side2 => exact Kd.R_tight rfl HO_6.out); rintro e w19 ⟨v139, rfl, ho0, hb, hkp⟩; refine ⟨_, rfl, ?_⟩; have n0_ := Aside0.mk (blk_kept (by (with_reducible repeat (first | refine blk_drewN ?_ _ | refine blk_drew ?_ | refine blk_alloc ?_ _)); exact BK131.out) hkp (fun hs_ => (fun e_ => (Kd.R_ne HO_6.out BK131.out (by decide)) e_) hs_)); have n1_ := Aside0.mk (Kd.R_mono (ok' := fun k_ => True) ho0 (fun k_ hk_ => trivial)); have n2_ := Aside0.mk (hb); clear BK131; clear HB; clear HO_6; have BK131 := n0_; have HO140 := n1_; have HB := n2_; clear n0_ n1_ n2_; (try clear hb); (try clear hkp); (try clear ho0)))
            go_roundg k4
            case measure => have := HJ2.out; have := HJ7.out; have := HK3.out; have := HK4.out; omega
            case rel => exact ⟨(wrap64 (x1_4 - 1)), (t138), (by first | rfl | (simp; done) | (simp [*]; done)), H', ⟨by have := HJ2.out; have := HJ7.out; have := HK3.out; have := HK4.out; omega⟩, ⟨by (with_reducible repeat (first | apply Kd.R_alloc | apply Kd.R_drewN | apply Kd.R_drew)); exact HO140.out⟩, ⟨by (with_reducible repeat (first | refine blk_drewN ?_ _ | refine blk_drew ?_ | refine blk_alloc ?_ _)); exact BK131.out⟩, ⟨by repeat (first | (with_reducible first | exact HB.out | apply below_alloc | apply pw_below_drewN | apply below_drew1 | refine below_set ?_ GE131.out) | exact HB.out)⟩⟩
           ·rw [if_neg c16] at H
            have c16b0 : decide (0 < x1_4) = false := decide_eq_false c16
            clear c16
            replace H := Option.bind_eq_some_iff.mp H
            obtain ⟨t141, A200, H⟩ := H
            replace H : ((bigdec_form.f t141 (wrap64 ((t141.size : Int) + x8_7))).bind fun bt142 => (some (bt142.1, bt142.2, 0))) = some (r1, r2, r3) := H
            have A20 := Aside0.mk A200
            clear A200
            replace H := Option.bind_eq_some_iff.mp H
            obtain ⟨⟨t142, t143⟩, A210, H⟩ := H
            replace H : (some (t142, t143, 0)) = some (r1, r2, r3) := H
            have A21 := Aside0.mk A210
            clear A210
            simp only [Option.some.injEq, Prod.mk.injEq] at H
            obtain ⟨rfl, rfl, rfl⟩ := H
            obtain ⟨Ao22, co22, eo22⟩ := Kd.R_slice HO_6.out
            subst eo22
            go_wp2_with (first | ((with_reducible refine gate_callee (f := 30) rfl ?_); refine goesL_ (some 60) rfl rfl Tryd.func30 (by kernel_rfl) rfl #[.slice Ao22 x6_4.length co22] rfl (by (try simp only [List.map_toArray, List.map_cons, List.map_nil]); first | done | rfl | (simp only [List.length_drop, List.length_take]; rfl)) ?_; (with_reducible refine (bigdec_text.calls k4 _ _ x6_4 t141 _ ?side1 ?side2 A20.out).mono ?_); (case side1 => repeat (first | exact (Kd.R_reads' HO_6.out).2.2 | (with_reducible refine Kd.C_alloc ?_ _) | (with_reducible refine Kd.C_drewN ?_ _) | (with_reducible refine Kd.C_drew ?_))); (case side2 => exact (Kd.R_reads' HO_6.out).2.1); rintro e w23 ⟨rfl, hb⟩; refine ⟨_, rfl, ?_⟩; have n0_ := Aside0.mk (Kd.R_below (by (with_reducible repeat (first | apply Kd.R_alloc | apply Kd.R_drewN | apply Kd.R_drew)); exact HO_6.out) hb); have n1_ := Aside0.mk (blk_below (g := gb131) (o := .cells #[.string (⟨#[]⟩ : ByteArray), .int .i64 0] 23 (0, 0)) (by (with_reducible repeat (first | refine blk_drewN ?_ _ | refine blk_drew ?_ | refine blk_alloc ?_ _)); exact BK131.out) hb); have n2_ := Aside0.mk (below_step (by repeat (first | (with_reducible first | exact HB.out | apply below_alloc | apply pw_below_drewN | apply below_drew1 | refine below_set ?_ GE131.out) | exact HB.out)) hb); clear HO_6; clear BK131; clear HB; have HO_6 := n0_; have BK131 := n1_; have HB := n2_; clear n0_ n1_ n2_; (try clear hb); (try clear hb2); (try clear hk); (try clear hi)) | ((with_reducible refine gate_callee (f := 27) rfl ?_); refine goesL_ (some 67) rfl rfl Tryd.func27 (by kernel_rfl) rfl #[.agg #[.string t141, .int .i64 (wrap64 ((t141.size : Int) + x8_7))]] rfl (by (try simp only [List.map_toArray, List.map_cons, List.map_nil]); first | done | rfl | (simp only [List.length_drop, List.length_take]; rfl)) ?_; (with_reducible refine (bigdec_form.calls t141 (wrap64 ((t141.size : Int) + x8_7)) t142 t143 _ A21.out).mono ?_); rintro e w24 ⟨rfl, hb⟩; refine ⟨_, rfl, ?_⟩; have n0_ := Aside0.mk (Kd.R_below (by (with_reducible repeat (first | apply Kd.R_alloc | apply Kd.R_drewN | apply Kd.R_drew)); exact HO_6.out) hb); have n1_ := Aside0.mk (blk_below (g := gb131) (o := .cells #[.string (⟨#[]⟩ : ByteArray), .int .i64 0] 23 (0, 0)) (by (with_reducible repeat (first | refine blk_drewN ?_ _ | refine blk_drew ?_ | refine blk_alloc ?_ _)); exact BK131.out) hb); have n2_ := Aside0.mk (below_step (by repeat (first | (with_reducible first | exact HB.out | apply below_alloc | apply pw_below_drewN | apply below_drew1 | refine below_set ?_ GE131.out) | exact HB.out)) hb); clear HO_6; clear BK131; clear HB; have HO_6 := n0_; have BK131 := n1_; have HB := n2_; clear n0_ n1_ n2_; (try clear hb); (try clear hb2); (try clear hk); (try clear hi); have hcz25_0 : w24.cell? ⟨gb131, 0, none⟩ = some (.string (⟨#[]⟩ : ByteArray)) := (blk_cell BK131.out 0).trans rfl; have hcz25_1 : w24.cell? ⟨gb131, 1, none⟩ = some (.int .i64 0) := (blk_cell BK131.out 1).trans rfl; have hfz25_0 := blk_frozen BK131.out 0; have hfz25_1 := blk_frozen BK131.out 1))
            refine bodyPost_ret (results_ct rfl _ _ gb131 23 #[.string t142, .int .i64 t143] (0, 0) _ rfl (by (with_reducible repeat (first | refine blk_drewN ?_ _ | refine blk_drew ?_ | refine blk_alloc ?_ _)); refine blk_put (cs := #[.string t142, .int .i64 0]) ?_ 1 _ rfl; (with_reducible repeat (first | refine blk_drewN ?_ _ | refine blk_drew ?_ | refine blk_alloc ?_ _)); refine blk_put (cs := #[.string (⟨#[]⟩ : ByteArray), .int .i64 0]) ?_ 0 _ rfl; (with_reducible repeat (first | refine blk_drewN ?_ _ | refine blk_drew ?_ | refine blk_alloc ?_ _)); exact BK131.out) Tryd.underlying23 rfl (by kernel_rfl)) rfl ?_
            exact ⟨by first | rfl | (simp [errW_none, errW_some] <;> rfl) | (simp [*, errW_none, errW_some] <;> rfl), by repeat (first | (with_reducible first | exact HB.out | apply below_alloc | apply pw_below_drewN | apply below_drew1 | refine below_set ?_ GE131.out) | exact HB.out)⟩
end Go.Proofs.YtobidkjmgkmaoaaDoor.Fn
end
section
namespace Go.Proofs.YtobidkjmgkmaoaaDoor.Pure
open Go.RowKit Go.Proofs.YtobidkjmgkmaoaaDoorW.PrintWords Go.Proofs.YtobidkjmgkmaoaaDoor.Fn
set_option linter.unusedVariables false
set_option linter.unusedSimpArgs false
theorem zeros_set (m : Nat) (v : Int) (t : List Int) : (List.replicate (m + 1) (0 : Int) ++ t).set m v = List.replicate m 0 ++ v :: t := by
  have h1 : List.replicate (m + 1) (0 : Int) = List.replicate m 0 ++ [0] := List.replicate_succ'
  have h2 := set_mid (List.replicate m (0 : Int)) 0 v t
  rw [List.length_replicate] at h2
  rw [h1, List.append_assoc]
  exact h2
theorem rtext_l0 (all : List Int) (hall : all.length ≤ 50000) : ∀ (rest done : List Int), all = done ++ rest → InB 10 rest →
    Ev (fun k => platenref04_Text.l0 k all (List.replicate rest.length 0 ++ done.reverse.map (fun x => 48 + x)) all (all.length : Int) (done.length : Int)) (strOfNums (all.reverse.map (fun x => 48 + x))) := by
  intro rest
  induction rest with
  | nil =>
    intro done h _
    rw [List.append_nil] at h
    subst h
    refine Ev.step (f := fun _ => some (strOfNums (all.reverse.map (fun x => 48 + x)))) (fun k => ?_) (Ev.now _)
    simp only [platenref04_Text.l0]
    rw [if_neg (by omega)]
    simp
  | cons x rest ih =>
    intro done h hin
    have hx := hin.cons.1
    have := ih (done ++ [x]) (by rw [h]; simp) hin.cons.2
    rw [List.reverse_append, List.map_append, List.reverse_singleton, List.map_cons, List.map_nil, List.singleton_append] at this
    have hlen : all.length = done.length + (rest.length + 1) := by rw [h]; simp
    have hw : (wrap64 ((wrap64 ((all.length : Int) - 1)) - (done.length : Int))) = (rest.length : Int) := by
      rw [wrap_id (x := (all.length : Int) - 1) (by omega) (by omega), wrap_id (by omega) (by omega)]; omega
    refine Ev.step (f := fun k => platenref04_Text.l0 k all (List.replicate rest.length 0 ++ (48 + x) :: done.reverse.map (fun x => 48 + x)) all (all.length : Int) ((done ++ [x]).length : Int)) (fun k => ?_) this
    simp only [platenref04_Text.l0]
    have hrd : rd all (done.length : Int) = x := by rw [h]; exact rd_mid done x rest
    rw [if_pos (by omega), if_pos (by omega), if_pos (by omega), hw, if_pos (by omega), if_pos (by simp; omega), hrd, Int.toNat_natCast, List.length_cons, zeros_set, wrap_id (by omega) (by omega)]
    have e1 : (48 + x) % 256 = 48 + x := by omega
    rw [e1]
    congr 1
    simp
theorem strOf_textLE {l : List Int} (h : InB 10 l) : strOfNums (l.reverse.map (fun x => 48 + x)) = S (textLE l) := by
  unfold S textLE
  rw [← S_L (strOfNums _), L_strOfNums, List.map_map]
  have e : List.map ((fun n : Int => UInt8.ofNat n.toNat) ∘ fun x => 48 + x) l.reverse = List.map (fun x : Int => ch x.toNat) l.reverse := by
    apply List.map_congr_left
    intro x hx
    have := h x (List.mem_reverse.1 hx)
    simp only [Function.comp]
    unfold ch
    congr 1
    omega
  rw [e]
  rfl
theorem rtext_eq (l : List Int) (h : InB 10 l) (hl : l.length ≤ 50000) : Ev (fun k => platenref04_Text.f k l) (S (textLE l)) := by
  have := rtext_l0 l hl l [] rfl h
  rw [strOf_textLE h] at this
  unfold platenref04_Text.f
  refine Ev.congr (fun k => ?_) this
  rw [if_pos (by omega), if_pos (by omega)]
  simp
end Go.Proofs.YtobidkjmgkmaoaaDoor.Pure
end
section
namespace Go.Proofs.YtobidkjmgkmaoaaDoor.Pure
open Go.RowKit Go.Proofs.YtobidkjmgkmaoaaDoorW.PrintWords Go.Proofs.YtobidkjmgkmaoaaDoor.Fn
set_option linter.unusedVariables false
set_option linter.unusedSimpArgs false
def sumD (a : List UInt8) (p : Int) (b : List UInt8) (q : Int) : List UInt8 × Int :=
  decOf (sv a p (min (p - a.length) (q - b.length)) + sv b q (min (p - a.length) (q - b.length))) (min (p - a.length) (q - b.length))
theorem sumD_at {a b : List UInt8} {p q E : Int} (h1 : E ≤ p - a.length) (h2 : E ≤ q - b.length) : sumD a p b q = decOf (sv a p E + sv b q E) E := by
  unfold sumD
  obtain ⟨k, hk⟩ : ∃ k : Nat, E = min (p - (a.length : Int)) (q - b.length) - k := ⟨(min (p - (a.length : Int)) (q - b.length) - E).toNat, by omega⟩
  rw [hk, sv_lower a p _ (by omega), sv_lower b q _ (by omega), ← Nat.add_mul, decOf_scale]
theorem sumD_comm (a : List UInt8) (p : Int) (b : List UInt8) (q : Int) : sumD a p b q = sumD b q a p := by
  rw [sumD_at (a := a) (b := b) (E := min (p - (a.length : Int)) (q - b.length)) (by omega) (by omega), sumD_at (a := b) (b := a) (E := min (p - (a.length : Int)) (q - b.length)) (by omega) (by omega), Nat.add_comm]
theorem sumD_nil_left {b : List UInt8} {q : Int} (hb : InForm b q) (p : Int) : sumD [] p b q = (b, q) := by
  rw [sumD_at (E := min (p - (([] : List UInt8).length : Int)) (q - b.length)) (by omega) (by omega)]
  have : sv [] p (min (p - (([] : List UInt8).length : Int)) (q - b.length)) = 0 := by unfold sv; rw [val_nil, Nat.zero_mul]
  rw [this, Nat.zero_add, decOf_sv hb (by omega)]
theorem sumD_nil_right {a : List UInt8} {p : Int} (ha : InForm a p) (q : Int) : sumD a p [] q = (a, p) := by rw [sumD_comm, sumD_nil_left ha]
theorem sum_step {A B v c m : Nat} (h : v + c * 10 ^ m = A % 10 ^ m + B % 10 ^ m) :
    v + (c + A / 10 ^ m % 10 + B / 10 ^ m % 10) % 10 * 10 ^ m + (c + A / 10 ^ m % 10 + B / 10 ^ m % 10) / 10 * 10 ^ (m + 1) = A % 10 ^ (m + 1) + B % 10 ^ (m + 1) := by
  have e1 := Nat.mod_pow_succ (x := A) (b := 10) (k := m)
  have e2 := Nat.mod_pow_succ (x := B) (b := 10) (k := m)
  rw [e1, e2]
  generalize hs : c + A / 10 ^ m % 10 + B / 10 ^ m % 10 = s
  have hd := Nat.div_add_mod s 10
  have e3 : s / 10 * 10 ^ (m + 1) = 10 * (s / 10) * 10 ^ m := by rw [Nat.pow_succ, Nat.mul_comm (10 ^ m) 10, ← Nat.mul_assoc, Nat.mul_comm (s / 10) 10]
  rw [e3]
  have e4 : s % 10 * 10 ^ m + 10 * (s / 10) * 10 ^ m = s * 10 ^ m := by rw [← Nat.add_mul]; congr 1; omega
  have e5 : s * 10 ^ m = c * 10 ^ m + 10 ^ m * (A / 10 ^ m % 10) + 10 ^ m * (B / 10 ^ m % 10) := by rw [← hs, Nat.add_mul, Nat.add_mul, Nat.mul_comm (A / 10 ^ m % 10), Nat.mul_comm (B / 10 ^ m % 10)]
  omega
theorem nat_div10 {s : Nat} (h : s ≤ 19) : wrap64 (Int.tdiv (s : Int) 10) = ((s / 10 : Nat) : Int) := by
  rw [tdiv_id (x := (s : Int)) (Int.natCast_nonneg s), wrap_id (x := (s : Int) / 10) (by omega) (by omega)]; omega
theorem nat_mod10 (s : Nat) : Int.tmod (s : Int) 10 % 256 = ((s % 10 : Nat) : Int) := by
  rw [tmod_id (x := (s : Int)) (Int.natCast_nonneg s)]; omega
theorem rsum_l0 {a b : List UInt8} {p q E top : Int} (ha : AllD a) (hb : AllD b) (h1 : E ≤ p - a.length) (h2 : E ≤ q - b.length)
    (hba : a.length ≤ 4000 ∧ -10000 ≤ p ∧ p ≤ 10000) (hbb : b.length ≤ 4000 ∧ -10000 ≤ q ∧ q ≤ 10000) (hE : -20000 ≤ E) (ht : p ≤ top ∧ q ≤ top ∧ top ≤ 20000) (hEt : E ≤ top) :
    ∀ (d : Nat) (out : List Int) (c : Nat), (d : Int) = top + 1 - E - out.length → InB 10 out → c ≤ 1 → lv 10 out + c * 10 ^ out.length = sv a p E % 10 ^ out.length + sv b q E % 10 ^ out.length →
      Ev (fun k => platenref04_Sum.l0 k top out (c : Int) (E + out.length) (S a) p (S b) q) (decS (decOf (sv a p E + sv b q E) E)) := by
  intro d
  induction d with
  | zero =>
    intro out c hd hin hc hv
    have hla := sv_lt ha h1
    have hlb := sv_lt hb h2
    have hA : 10 ^ (p - E).toNat ≤ 10 ^ (out.length - 1) := Nat.pow_le_pow_right (by omega) (by omega)
    have hB : 10 ^ (q - E).toNat ≤ 10 ^ (out.length - 1) := Nat.pow_le_pow_right (by omega) (by omega)
    have hpw : 10 ^ out.length = 10 ^ (out.length - 1) * 10 := by rw [← Nat.pow_succ]; congr 1; omega
    rw [Nat.mod_eq_of_lt (by omega), Nat.mod_eq_of_lt (by omega)] at hv
    have hc0 : c = 0 := by
      rcases Nat.eq_zero_or_pos c with h | h
      · exact h
      · have : c = 1 := by omega
        subst this
        omega
    rw [hc0, Nat.zero_mul, Nat.add_zero] at hv
    have h3 := rIn_eq (S (textLE out)) (top + 1) (by rw [size_S, textLE_len]; omega) (by omega) (by omega)
    rw [L_S, formL_eq (textLE_all hin), textLE_val hin, textLE_len, hv] at h3
    have e : top + 1 - (out.length : Int) = E := by omega
    rw [e] at h3
    refine Ev.step (fun k => ?_) (Ev.bind (f := fun k t => (platenref04_In.f k t (top + 1)).bind fun bt => some (bt.1, bt.2)) (rtext_eq out hin (by omega)) (Ev.bind (f := fun _ bt => some (bt.1, bt.2)) h3 (Ev.now _)))
    simp only [platenref04_Sum.l0]
    rw [if_neg (by omega), wrap_id (by omega) (by omega)]
  | succ d ih =>
    intro out c hd hin hc hv
    have d1 := digit_eq (x := E + out.length) ha h1 (by omega) (by omega)
    have d2 := digit_eq (x := E + out.length) hb h2 (by omega) (by omega)
    have en : (E + (out.length : Int) - E).toNat = out.length := by omega
    rw [en] at d1 d2
    have hst := sum_step hv
    generalize hs : c + sv a p E / 10 ^ out.length % 10 + sv b q E / 10 ^ out.length % 10 = s at hst
    have hs20 : s ≤ 19 := by omega
    have := ih (out ++ [((s % 10 : Nat) : Int)]) (s / 10) (by simp; omega) (hin.append (InB.mk ⟨by omega, by omega⟩ (InB.nil 10))) (by omega) (by
      rw [lv_append, List.length_append, List.length_singleton]
      simp only [lv, Int.toNat_natCast, Nat.mul_zero, Nat.add_zero]
      rw [Nat.mul_comm (10 ^ out.length) (s % 10)]
      exact hst)
    rw [List.length_append, List.length_singleton] at this
    refine Ev.step (f := fun k => platenref04_Sum.l0 k top (out ++ [((s % 10 : Nat) : Int)]) ((s / 10 : Nat) : Int) (E + ((out.length + 1 : Nat) : Int)) (S a) p (S b) q) (fun k => ?_) this
    simp only [platenref04_Sum.l0]
    have em : (wrap64 ((c : Int) + (wrap64 (((sv a p E / 10 ^ out.length % 10 : Nat) : Int) + ((sv b q E / 10 ^ out.length % 10 : Nat) : Int))))) = (s : Int) := by
      rw [wrap_id (x := ((sv a p E / 10 ^ out.length % 10 : Nat) : Int) + ((sv b q E / 10 ^ out.length % 10 : Nat) : Int)) (by omega) (by omega), wrap_id (by omega) (by omega)]
      omega
    have e3 : wrap64 (E + (out.length : Int) + 1) = E + ((out.length + 1 : Nat) : Int) := by
      rw [wrap_id (x := E + (out.length : Int) + 1) (by omega) (by omega)]; omega
    have e4 : E + (out.length : Int) ≤ top := by omega
    have e5 : out.length < 140737488355328 := by omega
    rw [if_pos e4, d1, Option.bind_some, d2, Option.bind_some, if_pos e5, em, nat_mod10, nat_div10 hs20, e3]
theorem rsum_eq {a b : List UInt8} {p q : Int} (ha : InForm a p) (hb : InForm b q) (hba : a.length ≤ 4000 ∧ -10000 ≤ p ∧ p ≤ 10000) (hbb : b.length ≤ 4000 ∧ -10000 ≤ q ∧ q ≤ 10000) :
    Ev (fun k => platenref04_Sum.f k (S a) p (S b) q) (decS (sumD a p b q)) := by
  unfold platenref04_Sum.f
  rw [toList_L, L_S, toList_L, L_S]
  by_cases h1 : a = []
  · refine Ev.congr (fun k => by rw [if_pos h1]) ?_
    subst h1
    rw [sumD_nil_left hb]
    exact Ev.now _
  · refine Ev.congr (fun k => by rw [if_neg h1]) ?_
    by_cases h2 : b = []
    · refine Ev.congr (fun k => by rw [if_pos h2]) ?_
      subst h2
      rw [sumD_nil_right ha]
      exact Ev.now _
    · have hal : 0 < a.length := List.length_pos_iff.2 h1
      have key : ∀ (E : Int), E = min (p - (a.length : Int)) (q - b.length) → ∀ top : Int, top = max p q → Ev (fun k => platenref04_Sum.j1 k top E (S a) p (S b) q) (decS (sumD a p b q)) := by
        intro E hE top ht
        have h3 := rsum_l0 (E := E) (p := p) (q := q) (top := top) ha.1 hb.1 (by omega) (by omega) hba hbb (by omega) (by omega) (by omega) (top + 1 - E).toNat [] 0 (by simp; omega) (InB.nil 10) (by omega) (by simp [lv, Nat.mod_one])
        rw [← sumD_at (E := E) (p := p) (q := q) (by omega) (by omega)] at h3
        refine Ev.step (fun k => ?_) h3
        simp only [platenref04_Sum.j1]
        simp
      have key2 : ∀ top : Int, top = max p q → Ev (fun k => platenref04_Sum.j0 k top (p - a.length) (S a) p (S b) q) (decS (sumD a p b q)) := by
        intro top ht
        by_cases h4 : q - (b.length : Int) < p - a.length
        · refine Ev.step (f := fun k => platenref04_Sum.j1 k top (q - b.length) (S a) p (S b) q) (fun k => ?_) (key _ (by omega) top ht)
          simp only [platenref04_Sum.j0]
          rw [low_eq b q (by omega), Option.bind_some, if_pos h4, Option.bind_some]
        · refine Ev.step (f := fun k => platenref04_Sum.j1 k top (p - a.length) (S a) p (S b) q) (fun k => ?_) (key _ (by omega) top ht)
          simp only [platenref04_Sum.j0]
          rw [low_eq b q (by omega), Option.bind_some, if_neg h4]
      by_cases h5 : q > p
      · exact Ev.congr (fun k => by rw [if_neg h2, low_eq a p (by omega), Option.bind_some, if_pos h5]) (key2 q (by omega))
      · exact Ev.congr (fun k => by rw [if_neg h2, low_eq a p (by omega), Option.bind_some, if_neg h5]) (key2 p (by omega))
def toI (l : List UInt8) : List Int := l.map fun b => (b.toNat : Int)
theorem toI_append (a b : List UInt8) : toI (a ++ b) = toI a ++ toI b := List.map_append
theorem toI_length (a : List UInt8) : (toI a).length = a.length := List.length_map _
theorem bytesOf_S (l : List UInt8) : bytesOf (S l) = toI l := rfl
theorem strOf_toI (l : List UInt8) : strOfNums (toI l) = S l := by
  rw [← S_L (strOfNums (toI l)), L_strOfNums]
  congr 1
  unfold toI
  rw [List.map_map]
  have : List.map ((fun n : Int => UInt8.ofNat n.toNat) ∘ fun b : UInt8 => (b.toNat : Int)) l = List.map id l := by
    apply List.map_congr_left
    intro c _
    simp [Function.comp]
  rw [this, List.map_id]
end Go.Proofs.YtobidkjmgkmaoaaDoor.Pure
end
section
namespace Go.Proofs.YtobidkjmgkmaoaaDoor.Pure
open Go.RowKit Go.Proofs.YtobidkjmgkmaoaaDoorW.PrintWords Go.Proofs.YtobidkjmgkmaoaaDoor.Fn
set_option linter.unusedVariables false
set_option linter.unusedSimpArgs false
theorem low_decOf {n : Nat} (h : n ≠ 0) (e : Int) : e ≤ (decOf n e).2 - (decOf n e).1.length := by
  unfold decOf
  rw [if_neg h]
  have := length_rz (digs n)
  show e ≤ ((digs n).length : Int) + e - (rz (digs n)).length
  omega
theorem sv_decOf (n : Nat) (e : Int) : sv (decOf n e).1 (decOf n e).2 e = n := by
  by_cases h : n = 0
  · subst h
    unfold sv
    rw [decOf_zero]
    show val [] * _ = 0
    rw [val_nil, Nat.zero_mul]
  · unfold sv decOf
    rw [if_neg h]
    obtain ⟨k, hk⟩ := rz_prefix (digs n)
    have hv := val_digs n
    have hlen := congrArg List.length hk
    rw [List.length_append, List.length_replicate] at hlen
    rw [hk, val_append, val_zeros, List.length_replicate] at hv
    show val (rz (digs n)) * 10 ^ (((digs n).length : Int) + e - (rz (digs n)).length - e).toNat = n
    rw [show (((digs n).length : Int) + e - (rz (digs n)).length - e).toNat = k by omega]
    omega
theorem nil_decOf {n : Nat} {e : Int} : (decOf n e).1 = [] ↔ n = 0 := by
  constructor
  · intro h
    have := sv_decOf n e
    unfold sv at this
    rw [h, val_nil, Nat.zero_mul] at this
    exact this.symm
  · intro h; subst h; rfl
theorem sum_decOf (m n : Nat) (e : Int) : sumD (decOf m e).1 (decOf m e).2 (decOf n e).1 (decOf n e).2 = decOf (m + n) e := by
  by_cases hm : m = 0
  · subst hm
    rw [decOf_zero, Nat.zero_add]
    exact sumD_nil_left (inForm_decOf n e) 0
  · by_cases hn : n = 0
    · subst hn
      rw [decOf_zero, Nat.add_zero]
      exact sumD_nil_right (inForm_decOf m e) 0
    · rw [sumD_at (E := e) (low_decOf hm e) (low_decOf hn e), sv_decOf, sv_decOf]
theorem cmpD_nil (p q : Int) : cmpD [] p [] q = 0 := by
  unfold cmpD sv
  rw [val_nil, Nat.zero_mul, Nat.zero_mul, cmpN_self]
theorem cmp_decOf (m n : Nat) (e : Int) : cmpD (decOf m e).1 (decOf m e).2 (decOf n e).1 (decOf n e).2 = cmpN m n := by
  by_cases hm : m = 0
  · subst hm
    by_cases hn : n = 0
    · subst hn; rw [decOf_zero]; exact cmpD_nil 0 0
    · rw [cmpN_lt (show 0 < n by omega)]
      exact cmpD_nil_left (inForm_decOf n e) (mt nil_decOf.1 hn) _
  · by_cases hn : n = 0
    · subst hn
      rw [cmpN_gt (show 0 < m by omega)]
      exact cmpD_nil_right (inForm_decOf m e) (mt nil_decOf.1 hm) _
    · rw [cmpD_at (E := e) (low_decOf hm e) (low_decOf hn e), sv_decOf, sv_decOf]
theorem decOf_bound {n m : Nat} (h : n < 10 ^ m) (e : Int) : (decOf n e).1.length ≤ m ∧ (decOf n e).2 ≤ max 0 (e + m) ∧ min 0 e ≤ (decOf n e).2 := by
  unfold decOf
  have h1 := digs_len m n h
  have h2 := length_rz (digs n)
  by_cases h0 : n = 0
  · rw [if_pos h0]
    refine ⟨Nat.zero_le _, ?_, ?_⟩
    · show (0 : Int) ≤ _; omega
    · show _ ≤ (0 : Int); omega
  · rw [if_neg h0]
    refine ⟨?_, ?_, ?_⟩
    · show (rz (digs n)).length ≤ m; omega
    · show ((digs n).length : Int) + e ≤ _; omega
    · show _ ≤ ((digs n).length : Int) + e; omega
theorem sv_cut {a : List UInt8} {n : Nat} (hn : n ≤ a.length) : val a = val (a.take n) * 10 ^ (a.length - n) + val (a.drop n) := by
  have h := val_append (a.take n) (a.drop n)
  rw [List.take_append_drop, List.length_drop] at h
  exact h
def downP (a : List UInt8) (n : Nat) : Prop := 2 * val (a.drop n) < 10 ^ (a.length - n) ∨ (2 * val (a.drop n) = 10 ^ (a.length - n) ∧ val (a.take n) % 2 = 0)
instance (a : List UInt8) (n : Nat) : Decidable (downP a n) := by unfold downP; infer_instance
def roundN (a : List UInt8) (p n : Int) : List UInt8 × Int :=
  if n < 0 then ([], 0) else if (a.length : Int) ≤ n then (a, p) else if downP a n.toNat then decOf (val (a.take n.toNat)) (p - n) else decOf (val (a.take n.toNat) + 1) (p - n)
theorem rz_drop : ∀ (n : Nat) (a : List UInt8), rz a = a → rz (a.drop n) = a.drop n
  | 0, a, h => h
  | n + 1, [], _ => rz_nil
  | n + 1, c :: t, h => rz_drop n t (rz_tail h)
theorem less_nil (u : List UInt8) : Op.bytesLess u [] = false := by cases u <;> rfl
theorem less5 {t : List UInt8} (h : AllD t) (hr : rz t = t) (hn : t ≠ []) : (Op.bytesLess t [53] = true ↔ 2 * val t < 10 ^ t.length) ∧ (t = [53] ↔ 2 * val t = 10 ^ t.length) := by
  cases t with
  | nil => exact absurd rfl hn
  | cons c u =>
    have hc := h.cons.1
    have hv := val_lt h.cons.2
    have h53 : (53 : UInt8).toNat = 53 := rfl
    have e1 : Op.bytesLess (c :: u) [53] = (decide (c < 53)) := by
      show (decide (c < 53) || (c == 53 && Op.bytesLess u [])) = _
      rw [less_nil]; simp
    have e2 : (c < 53) ↔ dig c < 5 := by rw [UInt8.lt_iff_toNat_lt, h53]; unfold dig; omega
    rw [e1, val_cons, List.length_cons, Nat.pow_succ, decide_eq_true_iff, e2]
    generalize hP : 10 ^ u.length = P at *
    by_cases c1 : dig c < 5
    · have h4 : dig c * P ≤ 4 * P := Nat.mul_le_mul_right P (by omega)
      refine ⟨⟨fun _ => by omega, fun _ => c1⟩, ⟨fun h5 => ?_, fun h5 => ?_⟩⟩
      · injection h5 with h6 h7; rw [h6] at c1; exact absurd c1 (by decide)
      · omega
    · have h4 : 5 * P ≤ dig c * P := Nat.mul_le_mul_right P (by omega)
      refine ⟨⟨fun h5 => absurd h5 c1, fun h5 => by omega⟩, ⟨fun h5 => ?_, fun h5 => ?_⟩⟩
      · injection h5 with h6 h7
        subst h6; subst h7
        rw [List.length_nil] at hP
        rw [val_nil, ← hP]
        rfl
      · have h6 : val u = 0 := by omega
        have hu : u = [] := by
          by_cases hu : u = []
          · exact hu
          · exact absurd h6 (last_ne h.cons.2 (rz_tail hr) hu)
        subst hu
        rw [List.length_nil] at hP
        have h7 : dig c = 5 := by rw [← hP, val_nil] at h5; omega
        congr 1
        apply UInt8.toNat_inj.1
        unfold dig at h7
        rw [h53]; omega
theorem up_go : ∀ (m : Nat) (l : List UInt8) (k : Nat), l.length = m → AllD l → ∃ r, upGo (toI (l ++ List.replicate k 48)) m = toI r ∧ AllD r ∧ val r = (val l + 1) * 10 ^ k ∧ r.length ≤ m + k + 1
  | 0, l, k, hl, h => by
    have : l = [] := List.length_eq_zero_iff.1 hl
    subst this
    refine ⟨49 :: List.replicate k 48, rfl, ?_, ?_, ?_⟩
    · intro c hc
      rcases List.mem_cons.1 hc with rfl | h'
      · exact ⟨by decide, by decide⟩
      · rw [List.eq_of_mem_replicate h']; exact ⟨by decide, by decide⟩
    · rw [val_cons, val_zeros, List.length_replicate, val_nil]; rfl
    · rw [List.length_cons, List.length_replicate]; omega
  | m + 1, l, k, hl, h => by
    rcases List.eq_nil_or_concat l with rfl | ⟨t, c, rfl⟩
    · simp at hl
    · rw [List.concat_eq_append] at *
      have htl : t.length = m := by simpa using hl
      have hc := h.last
      have e0 : toI (t ++ [c] ++ List.replicate k 48) = toI t ++ (c.toNat : Int) :: toI (List.replicate k 48) := by
        rw [toI_append, toI_append, List.append_assoc]; rfl
      have e1 : rd (toI (t ++ [c] ++ List.replicate k 48)) (m : Int) = (c.toNat : Int) := by
        have := rd_mid (toI t) (c.toNat : Int) (toI (List.replicate k 48))
        rw [toI_length, htl] at this
        rw [e0, this]
      have e2 : ∀ v : Int, (toI (t ++ [c] ++ List.replicate k 48)).set m v = toI t ++ v :: toI (List.replicate k 48) := by
        intro v
        have := set_mid (toI t) (c.toNat : Int) v (toI (List.replicate k 48))
        rw [toI_length, htl] at this
        rw [e0, this]
      unfold upGo
      rw [e1, e2, e2]
      by_cases h9 : (c.toNat : Int) < 57
      · rw [if_pos h9]
        have hd : dig c + 1 < 10 := by unfold dig; omega
        refine ⟨t ++ [ch (dig c + 1)] ++ List.replicate k 48, ?_, ?_, ?_, ?_⟩
        · have e5 : ((ch (dig c + 1)).toNat : Int) = c.toNat + 1 := by rw [ch_toNat hd]; unfold dig; omega
          rw [toI_append, toI_append, List.append_assoc]
          show _ = toI t ++ ((ch (dig c + 1)).toNat : Int) :: toI (List.replicate k 48)
          rw [e5]
        · intro x hx
          rcases List.mem_append.1 hx with h' | h'
          · rcases List.mem_append.1 h' with h' | h'
            · exact h.left x h'
            · rw [List.mem_singleton.1 h', ch_toNat hd]; omega
          · rw [List.eq_of_mem_replicate h']; exact ⟨by decide, by decide⟩
        · rw [val_append, val_zeros, val_snoc, val_snoc, dig_ch hd, List.length_replicate]; rfl
        · simp; omega
      · rw [if_neg h9]
        obtain ⟨r, r1, r2, r3, r4⟩ := up_go m t (k + 1) htl h.left
        have e6 : toI t ++ (48 : Int) :: toI (List.replicate k 48) = toI (t ++ List.replicate (k + 1) 48) := by rw [toI_append, List.replicate_succ]; rfl
        refine ⟨r, by rw [e6, r1], r2, ?_, by omega⟩
        have e7 : dig c = 9 := by unfold dig; omega
        rw [r3, val_snoc, e7, Nat.pow_succ, Nat.mul_comm (10 ^ k) 10, ← Nat.mul_assoc]
        congr 1
        omega
theorem up_eq {l : List UInt8} (h : AllD l) (hl : l.length ≤ 100000) : ∃ r, bigdec_up.f (S l) = some (S r) ∧ AllD r ∧ val r = val l + 1 ∧ r.length ≤ l.length + 1 := by
  obtain ⟨r, r1, r2, r3, r4⟩ := up_go l.length l 0 rfl h
  rw [List.replicate_zero, List.append_nil] at r1
  refine ⟨r, ?_, r2, by rw [r3, Nat.pow_zero, Nat.mul_one], by omega⟩
  unfold bigdec_up.f
  rw [bytesOf_S, size_S, r1, if_pos hl, strOf_toI]
theorem S_take (a : List UInt8) (n : Nat) : (S a).extract 0 n = S (a.take n) := by
  rw [← S_L ((S a).extract 0 n), L_extract, L_S, List.drop_zero, Nat.sub_zero]
theorem S_drop (a : List UInt8) (n : Nat) : (S a).extract n (S a).size = S (a.drop n) := by
  rw [← S_L ((S a).extract n (S a).size), L_extract, L_S, size_S]
  congr 1
  apply List.take_of_length_le
  rw [List.length_drop]
  omega
theorem round_j1 {a : List UInt8} {p : Int} (ha : AllD a) (hl : a.length ≤ 4000) (hp : -100000 ≤ p ∧ p ≤ 100000) (n : Nat) (hn : n < a.length) (b : Bool) (hb : b = decide (downP a n)) :
    Ev (fun k => bigdec_round.j1 k (n : Int) (S (a.take n)) b (S a) p) (decS (roundN a p n)) := by
  have hlen : (a.take n).length = n := by rw [List.length_take]; omega
  unfold roundN
  rw [if_neg (show ¬ (n : Int) < 0 by omega), if_neg (show ¬ (a.length : Int) ≤ n by omega), Int.toNat_natCast]
  by_cases hd : downP a n
  · rw [if_pos hd]
    have hf := form_eq (S (a.take n)) p (by rw [size_S]; omega) (by omega) (by omega)
    rw [L_S, formL_eq (ha.take n), hlen] at hf
    refine Ev.step (fun k => ?_) (Ev.now _)
    simp only [bigdec_round.j1]
    rw [if_pos (by rw [hb]; exact decide_eq_true hd), hf, Option.bind_some]
  · rw [if_neg hd]
    obtain ⟨r, r1, r2, r3, r4⟩ := up_eq (ha.take n) (by omega)
    have hf := form_eq (S r) (p + r.length - n) (by rw [size_S]; omega) (by omega) (by omega)
    rw [L_S, formL_eq r2, r3, show p + (r.length : Int) - n - r.length = p - n by omega] at hf
    refine Ev.step (fun k => ?_) (Ev.now _)
    simp only [bigdec_round.j1]
    rw [if_neg (by rw [hb, decide_eq_false hd]; exact fun h => by cases h), r1, Option.bind_some, size_S, wrap_id (x := p + (r.length : Int)) (by omega) (by omega), wrap_id (x := p + (r.length : Int) - n) (by omega) (by omega), hf, Option.bind_some]
theorem round_j0 {a : List UInt8} {p : Int} (ha : InForm a p) (hl : a.length ≤ 4000) (hp : -100000 ≤ p ∧ p ≤ 100000) (n : Nat) (hn : n < a.length) (odd : Bool) (ho : odd = decide (val (a.take n) % 2 = 1)) :
    Ev (fun k => bigdec_round.j0 k (n : Int) (S (a.take n)) (S (a.drop n)) odd (S a) p) (decS (roundN a p n)) := by
  have hdl : (a.drop n).length = a.length - n := List.length_drop
  have h5 := less5 (ha.1.drop n) (rz_drop n a ha.2.2.1) (fun e => by rw [e, List.length_nil] at hdl; omega)
  rw [hdl] at h5
  by_cases c1 : Op.bytesLess (a.drop n) [53] = true
  · refine Ev.step (fun k => ?_) (round_j1 ha.1 hl hp n hn true (by symm; exact decide_eq_true (.inl (h5.1.1 c1))))
    simp only [bigdec_round.j0]
    rw [toList_L, L_S, if_pos c1]
  · by_cases c2 : a.drop n = [53]
    · refine Ev.step (fun k => ?_) (round_j1 ha.1 hl hp n hn (!odd) ?_)
      · simp only [bigdec_round.j0]
        rw [toList_L, L_S, if_neg c1, if_pos c2]
      · have h6 := h5.2.1 c2
        by_cases c3 : val (a.take n) % 2 = 1
        · rw [ho, decide_eq_true c3, decide_eq_false]
          · rfl
          · rintro (h7 | ⟨_, h7⟩) <;> omega
        · rw [ho, decide_eq_false c3, decide_eq_true (show downP a n from .inr ⟨h6, by omega⟩)]
          rfl
    · refine Ev.step (fun k => ?_) (round_j1 ha.1 hl hp n hn false ?_)
      · simp only [bigdec_round.j0]
        rw [toList_L, L_S, if_neg c1, if_neg c2]
      · rw [decide_eq_false]
        rintro (h7 | ⟨h7, _⟩)
        · exact c1 (h5.1.2 h7)
        · exact c2 (h5.2.2 h7)
theorem round_eq {a : List UInt8} {p : Int} (ha : InForm a p) (hl : a.length ≤ 4000) (hp : -100000 ≤ p ∧ p ≤ 100000) (n : Int) : Ev (fun k => bigdec_round.f k (S a) p n) (decS (roundN a p n)) := by
  unfold bigdec_round.f
  by_cases c1 : n < 0
  · have e : roundN a p n = ([], 0) := by unfold roundN; rw [if_pos c1]
    rw [e]
    exact Ev.congr (fun k => by rw [if_pos c1]; rfl) (Ev.now _)
  · by_cases c2 : n ≥ (a.length : Int)
    · have e : roundN a p n = (a, p) := by unfold roundN; rw [if_neg c1, if_pos c2]
      rw [e]
      exact Ev.congr (fun k => by rw [if_neg c1, size_S, if_pos c2]; rfl) (Ev.now _)
    · obtain ⟨m, rfl⟩ : ∃ m : Nat, n = (m : Int) := ⟨n.toNat, by omega⟩
      have hm : m < a.length := by omega
      have key : ∀ odd : Bool, odd = decide (val (a.take m) % 2 = 1) → Ev (fun k => bigdec_round.j0 k (m : Int) ((S a).extract 0 m) ((S a).extract m (S a).size) odd (S a) p) (decS (roundN a p m)) := by
        intro odd ho
        rw [S_take, S_drop]
        exact round_j0 ha hl hp m hm odd ho
      by_cases c3 : (m : Int) > 0
      · refine Ev.congr (fun k => ?_) (key (((((bt ((S a).extract 0 m) ((m : Int) - 1)) - 48) % 256) % 2) == 1) ?_)
        · rw [if_neg c1, if_neg (by rw [size_S]; omega), if_pos (by omega), if_pos (by rw [size_S]; omega), if_pos c3, wrap_id (x := (m : Int) - 1) (by omega) (by omega), if_pos (by omega), Int.toNat_natCast, if_pos (by rw [S_take, size_S, List.length_take]; omega)]
        · rw [S_take]
          obtain ⟨j, rfl⟩ : ∃ j, m = j + 1 := ⟨m - 1, by omega⟩
          have ej : ((j + 1 : Nat) : Int) - 1 = (j : Int) := by omega
          have hj : j < a.length := by omega
          rw [ej, bt_L _ j (by rw [size_S, List.length_take]; omega)]
          simp only [L_S, List.getElem_take]
          have etk : a.take (j + 1) = a.take j ++ [a[j]] := List.take_succ_eq_append_getElem hj
          have hx := ha.1 a[j] (List.getElem_mem hj)
          have ev : val (a.take (j + 1)) = 10 * val (a.take j) + dig a[j] := by rw [etk, val_snoc]
          rw [ev]
          have e3 : ((a[j].toNat : Int) - 48) % 256 % 2 = (((10 * val (a.take j) + dig a[j]) % 2 : Nat) : Int) := by unfold dig; omega
          rw [e3]
          by_cases c4 : (10 * val (a.take j) + dig a[j]) % 2 = 1
          · rw [c4]; rfl
          · rw [show (10 * val (a.take j) + dig a[j]) % 2 = 0 by omega]; rfl
      · have h0 : m = 0 := by omega
        subst h0
        refine Ev.congr (fun k => ?_) (key false (by rw [List.take_zero, val_nil]; rfl))
        rw [if_neg c1, if_neg (by rw [size_S]; omega), if_pos (by omega), if_pos (by rw [size_S]; omega), if_neg c3]
        rfl
def roundS (s : ByteArray) (p : Int) (n : Int → Int) : ByteArray × Int × Int :=
  if (normS s p).2.2 = 0 then ((decS (roundN (L (normS s p).1) (normS s p).2.1 (n (normS s p).2.1))).1, (decS (roundN (L (normS s p).1) (normS s p).2.1 (n (normS s p).2.1))).2, 0) else ((⟨#[]⟩ : ByteArray), 0, (normS s p).2.2)
theorem roundS_eq (s : ByteArray) (p n : Int) : Ev (fun k => bigdec_Round.f k s p n) (roundS s p fun _ => n) := by
  unfold bigdec_Round.f roundS
  refine Ev.bind (norm_eq s p) ?_
  rcases normS_cases s p with ⟨e, h1, h2, _⟩ | ⟨l, u, h1, hf1, b1, b2, b3, _⟩
  · rw [h1, if_neg h2]
    exact Ev.congr (fun k => by rw [if_neg h2]) (Ev.now _)
  · rw [h1, if_pos rfl]
    exact Ev.congr (fun k => by rw [if_pos rfl]) (Ev.bind (f := fun _ bt => some (bt.1, bt.2, 0)) (round_eq hf1 (by omega) (by omega) n) (Ev.now _))
end Go.Proofs.YtobidkjmgkmaoaaDoor.Pure
end
section
namespace Go.Proofs.YtobidkjmgkmaoaaDoor.Pure
open Go.RowKit Go.Proofs.YtobidkjmgkmaoaaDoorW.PrintWords Go.Proofs.YtobidkjmgkmaoaaDoor.Fn
set_option linter.unusedVariables false
set_option linter.unusedSimpArgs false
theorem near_j0 {a : List UInt8} {p : Int} (ha : InForm a p) (hna : a ≠ []) (hl : a.length ≤ 2000) (hp : -7000 ≤ p ∧ p ≤ 5000) (u : Int) (hu : p - a.length < u) (hu2 : u ≤ 50000) :
    Ev (fun k => platenref04_Nearest.j0 k u false (S a) p) (decS (roundN a p (p - u))) := by
  by_cases c1 : p - u < 0
  · have e : roundN a p (p - u) = ([], 0) := by unfold roundN; rw [if_pos c1]
    rw [e]
    refine Ev.step (fun k => ?_) (Ev.now _)
    simp only [platenref04_Nearest.j0]
    rw [if_neg (fun h => by cases h), wrap_id (x := p - u) (by omega) (by omega), if_pos c1]
    rfl
  · obtain ⟨n, hn⟩ : ∃ n : Nat, p - u = (n : Int) := ⟨(p - u).toNat, by omega⟩
    have hnl : n < a.length := by omega
    have hu3 : u = p - n := by omega
    subst hu3
    have hlen : (a.take n).length = n := by rw [List.length_take]; omega
    generalize hq : val (a.take n) = q at *
    have hqb : q < 10 ^ n := by rw [← hq]; have := val_lt (ha.1.take n); rwa [hlen] at this
    -- the floor
    have h1 := rIn_eq (S (a.take n)) p (by rw [size_S]; omega) (by omega) (by omega)
    rw [L_S, formL_eq (ha.1.take n), hlen, hq] at h1
    obtain ⟨f1, f2, f3⟩ := decOf_bound hqb (p - n)
    -- the next
    have b2 : 1 < 10 ^ 1 := by omega
    have hone : (S ([49] : List UInt8), p - (n : Int) + 1) = decS (decOf 1 (p - n)) := by
      unfold decS decOf
      rw [if_neg (by omega)]
      have : digs 1 = [49] := rfl
      rw [this]
      have : rz [49] = [49] := rfl
      rw [this]
      show (S [49], p - (n : Int) + 1) = (S [49], ((1 : Nat) : Int) + (p - n))
      congr 1; omega
    obtain ⟨o1, o2, o3⟩ := decOf_bound b2 (p - n)
    have h2 := rsum_eq (inForm_decOf q (p - n)) (inForm_decOf 1 (p - n)) ⟨by omega, by omega, by omega⟩ ⟨by omega, by omega, by omega⟩
    rw [sum_decOf] at h2
    have hq1 : q + 1 < 10 ^ (n + 1) := by rw [Nat.pow_succ]; omega
    obtain ⟨x1, x2, x3⟩ := decOf_bound hq1 (p - n)
    -- twice the value, and the two neighbours' sum
    have hva := val_lt ha.1
    have eva : decOf (val a) (p - a.length) = (a, p) := decOf_val ha
    have h3 := rsum_eq ha ha ⟨by omega, by omega, by omega⟩ ⟨by omega, by omega, by omega⟩
    have e3 : sumD a p a p = decOf (val a + val a) (p - a.length) := by
      have := sum_decOf (val a) (val a) (p - a.length)
      rw [eva] at this
      exact this
    rw [e3] at h3
    have h4 := rsum_eq (inForm_decOf q (p - n)) (inForm_decOf (q + 1) (p - n)) ⟨by omega, by omega, by omega⟩ ⟨by omega, by omega, by omega⟩
    rw [sum_decOf] at h4
    have hv2 : val a + val a < 10 ^ (a.length + 1) := by rw [Nat.pow_succ]; omega
    have hq2 : q + (q + 1) < 10 ^ (n + 1) := by rw [Nat.pow_succ]; omega
    obtain ⟨y1, y2, y3⟩ := decOf_bound hv2 (p - a.length)
    obtain ⟨z1, z2, z3⟩ := decOf_bound hq2 (p - n)
    have h5 := rcmp_eq (inForm_decOf (val a + val a) (p - a.length)) (inForm_decOf (q + (q + 1)) (p - n)) ⟨by omega, by omega, by omega⟩ ⟨by omega, by omega, by omega⟩
    have e5 : decOf (q + (q + 1)) (p - n) = decOf ((q + (q + 1)) * 10 ^ (a.length - n)) (p - a.length) := by
      rw [← decOf_scale (q + (q + 1)) (a.length - n) (p - n)]
      congr 1; omega
    have e6 : cmpD (decOf (val a + val a) (p - a.length)).1 (decOf (val a + val a) (p - a.length)).2 (decOf (q + (q + 1)) (p - n)).1 (decOf (q + (q + 1)) (p - n)).2 = cmpN (2 * val (a.drop n)) (10 ^ (a.length - n)) := by
      rw [e5, cmp_decOf, sv_cut (show n ≤ a.length by omega), hq]
      generalize 10 ^ (a.length - n) = M
      have h8 := cmpN_add (q * M + q * M) (2 * val (a.drop n)) M
      rw [← h8]
      congr 1
      · omega
      · rw [Nat.add_mul, Nat.add_mul, Nat.one_mul, Nat.add_assoc]
    rw [e6] at h5
    have hd : platenref04_digit.f (S (decOf q (p - n)).1) (decOf q (p - n)).2 (p - n) = some ((q % 10 : Nat) : Int) := by
      by_cases h0 : q = 0
      · subst h0
        have := digit_eq (l := []) (p := 0) (E := min 0 (p - n)) (x := p - n) AllD.nil (by simp; omega) (by omega) ⟨by simp, by omega, by omega, by omega, by omega⟩
        unfold sv at this
        rw [val_nil, Nat.zero_mul, Nat.zero_div] at this
        exact this
      · have := digit_eq (l := (decOf q (p - n)).1) (p := (decOf q (p - n)).2) (E := p - n) (x := p - n) (inForm_decOf q (p - n)).1 (low_decOf h0 _) (by omega) ⟨by omega, by omega, by omega, by omega, by omega⟩
        rw [sv_decOf, show (p - (n : Int) - (p - n)).toNat = 0 by omega, Nat.pow_zero, Nat.div_one] at this
        exact this
    -- the walk
    have hgo : ∀ k, platenref04_Nearest.j0 (k + 1) (p - n) false (S a) p = ((platenref04_In.f k (S (a.take n)) p).bind fun bt243 => ((platenref04_Sum.f k bt243.1 bt243.2 (S [49]) (p - n + 1)).bind fun bt246 => ((platenref04_Sum.f k (S a) p (S a) p).bind fun bt249 => ((platenref04_Sum.f k bt243.1 bt243.2 bt246.1 bt246.2).bind fun bt251 => ((platenref04_Compare.f k bt249.1 bt249.2 bt251.1 bt251.2).bind fun t253 => (if t253 < 0 then (some (bt243.1, bt243.2)) else (if t253 = 0 then ((platenref04_digit.f bt243.1 bt243.2 (p - n)).bind fun t254 => (if (Int.tmod t254 2) = 0 then (some (bt243.1, bt243.2)) else (some (bt246.1, bt246.2)))) else (some (bt246.1, bt246.2))))))))) := by
      intro k
      simp only [platenref04_Nearest.j0]
      rw [if_neg (fun h => by cases h), wrap_id (x := p - (p - (n : Int))) (by omega) (by omega), if_neg c1, if_pos (by omega), if_pos (by rw [size_S]; omega), wrap_id (x := p - (n : Int) + 1) (by omega) (by omega), show (p - (p - (n : Int))).toNat = n by omega, S_take]
      rfl
    refine Ev.step hgo ?_
    refine Ev.bind h1 ?_
    refine Ev.bind (f := fun (k : Nat) (bt246 : ByteArray × Int) => ((platenref04_Sum.f k (S a) p (S a) p).bind fun bt249 => ((platenref04_Sum.f k (decS (decOf q (p - n))).1 (decS (decOf q (p - n))).2 bt246.1 bt246.2).bind fun bt251 => ((platenref04_Compare.f k bt249.1 bt249.2 bt251.1 bt251.2).bind fun t253 => (if t253 < 0 then (some ((decS (decOf q (p - n))).1, (decS (decOf q (p - n))).2)) else (if t253 = 0 then ((platenref04_digit.f (decS (decOf q (p - n))).1 (decS (decOf q (p - n))).2 (p - n)).bind fun t254 => (if (Int.tmod t254 2) = 0 then (some ((decS (decOf q (p - n))).1, (decS (decOf q (p - n))).2)) else (some (bt246.1, bt246.2)))) else (some (bt246.1, bt246.2)))))))) (a := decS (decOf (q + 1) (p - n))) ?_ ?_
    · have e1 : S [49] = (decS (decOf 1 (p - n))).1 := by rw [← hone]
      have e2 : p - (n : Int) + 1 = (decS (decOf 1 (p - n))).2 := by rw [← hone]
      rw [e1, e2]
      exact h2
    · refine Ev.bind h3 (Ev.bind h4 (Ev.bind h5 ?_))
      have er : roundN a p (p - (p - n)) = if downP a n then decOf q (p - n) else decOf (q + 1) (p - n) := by
        rw [show p - (p - (n : Int)) = (n : Int) by omega]
        unfold roundN
        rw [if_neg (by omega), if_neg (by omega), Int.toNat_natCast, hq]
      rw [er]
      have hdn : downP a n ↔ 2 * val (a.drop n) < 10 ^ (a.length - n) ∨ (2 * val (a.drop n) = 10 ^ (a.length - n) ∧ q % 2 = 0) := by unfold downP; rw [hq]
      by_cases g1 : 2 * val (a.drop n) < 10 ^ (a.length - n)
      · rw [cmpN_lt g1, if_pos (hdn.2 (.inl g1))]
        exact Ev.congr (fun k => by rw [if_pos (by omega)]) (Ev.now _)
      · by_cases g2 : 2 * val (a.drop n) = 10 ^ (a.length - n)
        · rw [g2, cmpN_self]
          have em : Int.tmod ((q % 10 : Nat) : Int) 2 = ((q % 2 : Nat) : Int) := by rw [tmod_id (x := ((q % 10 : Nat) : Int)) (Int.natCast_nonneg _)]; omega
          by_cases g3 : q % 2 = 0
          · rw [if_pos (hdn.2 (.inr ⟨g2, g3⟩))]
            refine Ev.congr (fun k => ?_) (Ev.now _)
            rw [if_neg (by omega), if_pos rfl]
            show (platenref04_digit.f (S (decOf q (p - n)).1) (decOf q (p - n)).2 (p - n)).bind _ = _
            rw [hd, Option.bind_some, em, if_pos (by omega)]
          · rw [if_neg (show ¬ downP a n from fun h => by rcases hdn.1 h with h | ⟨_, h⟩ <;> omega)]
            refine Ev.congr (fun k => ?_) (Ev.now _)
            rw [if_neg (by omega), if_pos rfl]
            show (platenref04_digit.f (S (decOf q (p - n)).1) (decOf q (p - n)).2 (p - n)).bind _ = _
            rw [hd, Option.bind_some, em, if_neg (by omega)]
        · rw [cmpN_gt (by omega), if_neg (show ¬ downP a n from fun h => by rcases hdn.1 h with h | ⟨h, _⟩ <;> omega)]
          exact Ev.congr (fun k => by rw [if_neg (by omega), if_neg (by omega)]) (Ev.now _)
theorem near_eq {a : List UInt8} {p : Int} (ha : InForm a p) (hl : a.length ≤ 2000) (hp : -7000 ≤ p ∧ p ≤ 5000) (u : Int) (hu2 : -50000 ≤ u ∧ u ≤ 50000) :
    Ev (fun k => platenref04_Nearest.f k (S a) p u) (decS (roundN a p (p - u))) := by
  unfold platenref04_Nearest.f
  refine Ev.congr (f := fun k => if u ≤ p - (a.length : Int) then platenref04_Nearest.j0 k u true (S a) p else platenref04_Nearest.j0 k u (a == ([] : List UInt8)) (S a) p) (fun k => by rw [low_eq a p (by omega), Option.bind_some, toList_L, L_S]) ?_
  by_cases c1 : u ≤ p - a.length
  · have e : roundN a p (p - u) = (a, p) := by unfold roundN; rw [if_neg (by omega), if_pos (by omega)]
    rw [e]
    refine Ev.congr (fun k => by rw [if_pos c1]) (Ev.step (f := fun _ => some (S a, p)) (fun k => ?_) (Ev.now _))
    simp only [platenref04_Nearest.j0]
    rw [if_pos trivial]
  · by_cases c2 : a = []
    · subst c2
      have hp0 : p = 0 := ha.2.2.2 rfl
      have e : roundN [] p (p - u) = ([], p) := by
        unfold roundN
        by_cases c3 : p - u < 0
        · rw [if_pos c3, hp0]
        · rw [if_neg c3, if_pos (by simp; omega)]
      rw [e]
      refine Ev.congr (fun k => by rw [if_neg c1]) (Ev.step (f := fun _ => some (S [], p)) (fun k => ?_) (Ev.now _))
      simp only [platenref04_Nearest.j0]
      rw [if_pos (show (([] : List UInt8) == []) = true from rfl)]
    · have e : (a == ([] : List UInt8)) = false := by simpa using c2
      refine Ev.congr (fun k => by rw [if_neg c1, e]) (near_j0 ha c2 hl hp u (by omega) (by omega))
theorem rroundS_eq (s : ByteArray) (p n : Int) : Ev (fun k => platenref04_Round.f k s p n) (roundS s p fun _ => n) := by
  unfold platenref04_Round.f roundS
  refine Ev.bind (rNorm_eq s p) ?_
  rcases normS_cases s p with ⟨e, h1, h2, _⟩ | ⟨l, u, h1, hf1, b1, b2, b3, _⟩
  · rw [h1, if_neg h2]
    exact Ev.congr (fun k => by rw [if_neg h2]) (Ev.now _)
  · rw [h1, if_pos rfl]
    show Ev _ (S (roundN (L (S l)) u n).1, (roundN (L (S l)) u n).2, 0)
    rw [L_S]
    by_cases c1 : n < 0
    · have e : roundN l u n = ([], 0) := by unfold roundN; rw [if_pos c1]
      rw [e]
      exact Ev.congr (fun k => by rw [if_pos rfl, if_pos c1]; rfl) (Ev.now _)
    · by_cases c2 : n > 2000
      · have e : roundN l u n = (l, u) := by unfold roundN; rw [if_neg c1, if_pos (by omega)]
        rw [e]
        exact Ev.congr (fun k => by rw [if_pos rfl, if_neg c1, if_pos c2]) (Ev.now _)
      · have h := near_eq hf1 b1 ⟨b2, b3⟩ (u - n) (by omega)
        rw [show u - (u - n) = n by omega] at h
        exact Ev.congr (fun k => by rw [if_pos rfl, if_neg c1, if_neg c2, wrap_id (x := u - n) (by omega) (by omega)]) (Ev.bind (f := fun _ bt => some (bt.1, bt.2, 0)) h (Ev.now _))
end Go.Proofs.YtobidkjmgkmaoaaDoor.Pure
end
section
namespace Go.Proofs.YtobidkjmgkmaoaaDoor.Fn
open Go.RowKit Go.Proofs.YtobidkjmgkmaoaaDoorW.PrintWords Go.Proofs.YtobidkjmgkmaoaaDoorW.PrintLast Go.Proofs.YtobidkjmgkmaoaaDoorW.PrintMore
set_option linter.unusedVariables false
set_option linter.unusedSimpArgs false
attribute [local go_sem high] eqA23
def platenlaw04_lives.f (k : Nat)  : Option (Bool) := (bigdec_Exact.f k 1 (-1)).bind fun bt158 => ((bigdec_Round.f k (⟨#[57, 57, 53]⟩ : ByteArray) 1 2).bind fun bt162 => ((bigdec_Norm.f k (⟨#[49, 120]⟩ : ByteArray) 0).bind fun bt166 => (if bt158.2.2 = 0 then (if bt162.2.2 = 0 then (if bt166.2.2 = 4 then (if (bt158.1.toList == ([53] : List UInt8) && (bt158.2.1 == 0)) = true then (some (bt162.1.toList == ([49] : List UInt8) && (bt162.2.1 == 2))) else (some false)) else (some false)) else (some false)) else (some false))))
theorem platenlaw04_lives.mono : ∀ k, LeO (platenlaw04_lives.f k ) (platenlaw04_lives.f (k + 1) ) := by
 intro  k
 unfold platenlaw04_lives.f
 repeat' first
   | (with_reducible exact bigdec_Exact.mono _ _ _)
   | (with_reducible exact bigdec_Norm.mono _ _ _)
   | (with_reducible exact bigdec_Round.mono _ _ _ _)
   | (with_reducible exact LeO.refl _)
   | (with_reducible exact LeO.none _)
   | (with_reducible refine LeO.ite ?_ ?_)
   | (with_reducible refine LeO.bind ?_ (fun _ => ?_))
   | exact bigdec_Exact.mono _ _ _
   | exact bigdec_Norm.mono _ _ _
   | exact bigdec_Round.mono _ _ _ _
   | exact LeO.none _
   | refine LeO.ite ?_ ?_
   | refine LeO.bind ?_ (fun _ => ?_)
set_option maxHeartbeats 8000000 in
set_option maxRecDepth 100000 in
theorem platenlaw04_lives.calls (k : Nat)  (r : Bool) (w : World) (h : platenlaw04_lives.f k  = some r) :
  Calls Tryd.prog 15 #[] w fun e w' => e = .returned (.bool r) ∧ Below w.heap.size w w' := by
 have hu23 := Tryd.underlying23
 have HB := Aside0.mk (Below.refl w.heap.size w)
 have H : ((bigdec_Exact.f k 1 (-1)).bind fun bt158 => ((bigdec_Round.f k (⟨#[57, 57, 53]⟩ : ByteArray) 1 2).bind fun bt162 => ((bigdec_Norm.f k (⟨#[49, 120]⟩ : ByteArray) 0).bind fun bt166 => (if bt158.2.2 = 0 then (if bt162.2.2 = 0 then (if bt166.2.2 = 4 then (if (bt158.1.toList == ([53] : List UInt8) && (bt158.2.1 == 0)) = true then (some (bt162.1.toList == ([49] : List UInt8) && (bt162.2.1 == 2))) else (some false)) else (some false)) else (some false)) else (some false))))) = some r := h
 clear h
 replace H := Option.bind_eq_some_iff.mp H
 obtain ⟨⟨t158, t159, t160⟩, A10, H⟩ := H
 replace H : ((bigdec_Round.f k (⟨#[57, 57, 53]⟩ : ByteArray) 1 2).bind fun bt162 => ((bigdec_Norm.f k (⟨#[49, 120]⟩ : ByteArray) 0).bind fun bt166 => (if t160 = 0 then (if bt162.2.2 = 0 then (if bt166.2.2 = 4 then (if (t158.toList == ([53] : List UInt8) && (t159 == 0)) = true then (some (bt162.1.toList == ([49] : List UInt8) && (bt162.2.1 == 2))) else (some false)) else (some false)) else (some false)) else (some false)))) = some r := H
 have A1 := Aside0.mk A10
 clear A10
 replace H := Option.bind_eq_some_iff.mp H
 obtain ⟨⟨t162, t163, t164⟩, A20, H⟩ := H
 replace H : ((bigdec_Norm.f k (⟨#[49, 120]⟩ : ByteArray) 0).bind fun bt166 => (if t160 = 0 then (if t164 = 0 then (if bt166.2.2 = 4 then (if (t158.toList == ([53] : List UInt8) && (t159 == 0)) = true then (some (t162.toList == ([49] : List UInt8) && (t163 == 2))) else (some false)) else (some false)) else (some false)) else (some false))) = some r := H
 have A2 := Aside0.mk A20
 clear A20
 replace H := Option.bind_eq_some_iff.mp H
 obtain ⟨⟨t166, t167, t168⟩, A30, H⟩ := H
 replace H : (if t160 = 0 then (if t164 = 0 then (if t168 = 4 then (if (t158.toList == ([53] : List UInt8) && (t159 == 0)) = true then (some (t162.toList == ([49] : List UInt8) && (t163 == 2))) else (some false)) else (some false)) else (some false)) else (some false)) = some r := H
 have A3 := Aside0.mk A30
 clear A30
 by_cases c4 : t160 = 0
 ·rw [if_pos c4] at H
  have c4b0 : (t160 == 0) = true := beq_iff_eq.mpr c4
  have c4b1 : (t160 != 0) = false := bne_eq_false_iff_eq.mpr c4
  clear c4
  by_cases c5 : t164 = 0
  ·rw [if_pos c5] at H
   have c5b0 : (t164 == 0) = true := beq_iff_eq.mpr c5
   have c5b1 : (t164 != 0) = false := bne_eq_false_iff_eq.mpr c5
   clear c5
   by_cases c6 : t168 = 4
   ·rw [if_pos c6] at H
    have c6b0 : (t168 == 4) = true := beq_iff_eq.mpr c6
    have c6b1 : (t168 != 4) = false := bne_eq_false_iff_eq.mpr c6
    clear c6
    by_cases c7 : (t158.toList == ([53] : List UInt8) && (t159 == 0)) = true
    ·rw [if_pos c7] at H
     have c7b0 : (t158.toList == ([53] : List UInt8) && (t159 == 0)) = true := c7
     (try (have c7b1 : decide (t158.toList = ([53] : List UInt8) && (t159 == 0)) = true := by simpa using c7))
     (try (have c7b2 : (t158.toList == ([53] : List UInt8) && (t159 == 0)) = true := by simpa using c7))
     clear c7
     obtain rfl := Option.some.inj H
     go_enter Tryd.func15, Tryd.ntmps15
     go_wp2_with (first | ((with_reducible refine gate_callee (f := 16) rfl ?_); refine goesL_ (some 8) rfl rfl Tryd.func16 (by kernel_rfl) rfl #[.int .u64 1, .int .i64 (-1)] rfl (by (try simp only [List.map_toArray, List.map_cons, List.map_nil]); first | done | rfl | (simp only [List.length_drop, List.length_take]; rfl)) ?_; (with_reducible refine (bigdec_Exact.calls k 1 (-1) t158 t159 t160 _ A1.out).mono ?_); rintro e w8 ⟨rfl, hb⟩; refine ⟨_, rfl, ?_⟩; have n0_ := Aside0.mk (below_step (by repeat (first | (with_reducible first | exact HB.out | apply below_alloc | apply pw_below_drewN | apply below_drew1) | exact HB.out)) hb); clear HB; have HB := n0_; clear n0_; (try clear hb); (try clear hb2); (try clear hk); (try clear hi)) | ((with_reducible refine gate_dst (N := 1) rfl ?_); refine box_event ?hg (N := 1) ?hd (cs := #[.string (⟨#[]⟩ : ByteArray), .int .i64 0]) (t := 23) ?hr ?_; (case hd => rfl); (case hg => rfl); (case hr => first | (go_simp; done) | (go_simp; rfl)); intro gb161 hg w9 hbox hb; have n0_ := Aside0.mk (below_step (by repeat (first | (with_reducible first | exact HB.out | apply below_alloc | apply pw_below_drewN | apply below_drew1) | exact HB.out)) hb); have n1_ := Aside0.mk (hbox); have n2_ := Aside0.mk ((by rw [hg]; exact (below_size (by repeat (first | (with_reducible first | exact HB.out | apply below_alloc | apply pw_below_drewN | apply below_drew1) | exact HB.out))) : w.heap.size ≤ gb161)); have n3_ := Aside0.mk ((by rw [hg]; exact (below_size (by repeat (first | (with_reducible first | exact HB.out | apply below_alloc | apply pw_below_drewN | apply below_drew1) | exact HB.out))) : w.heap.size ≤ gb161)); clear HB; have HB := n0_; have BK161 := n1_; have GW161 := n2_; have GE161 := n3_; clear n0_ n1_ n2_ n3_; clear hb hbox hg; have hcz10_0 : w9.cell? ⟨gb161, 0, none⟩ = some (.string (⟨#[]⟩ : ByteArray)) := (blk_cell BK161.out 0).trans rfl; have hcz10_1 : w9.cell? ⟨gb161, 1, none⟩ = some (.int .i64 0) := (blk_cell BK161.out 1).trans rfl; have hfz10_0 := blk_frozen BK161.out 0; have hfz10_1 := blk_frozen BK161.out 1) | ((with_reducible refine gate_callee (f := 18) rfl ?_); refine goesL_ (some 13) rfl rfl Tryd.func18 (by kernel_rfl) rfl #[.agg #[.string (⟨#[57, 57, 53]⟩ : ByteArray), .int .i64 1], .int .i64 2] rfl (by (try simp only [List.map_toArray, List.map_cons, List.map_nil]); first | done | rfl | (simp only [List.length_drop, List.length_take]; rfl)) ?_; (with_reducible refine (bigdec_Round.calls k (⟨#[57, 57, 53]⟩ : ByteArray) 1 2 t162 t163 t164 _ A2.out).mono ?_); rintro e w11 ⟨rfl, hb⟩; refine ⟨_, rfl, ?_⟩; have n0_ := Aside0.mk (blk_below (g := gb161) (o := .cells #[.string t158, .int .i64 t159] 23 (0, 0)) (by (with_reducible repeat (first | refine blk_drewN ?_ _ | refine blk_drew ?_ | refine blk_alloc ?_ _)); refine blk_put (cs := #[.string t158, .int .i64 0]) ?_ 1 _ rfl; (with_reducible repeat (first | refine blk_drewN ?_ _ | refine blk_drew ?_ | refine blk_alloc ?_ _)); refine blk_put (cs := #[.string (⟨#[]⟩ : ByteArray), .int .i64 0]) ?_ 0 _ rfl; (with_reducible repeat (first | refine blk_drewN ?_ _ | refine blk_drew ?_ | refine blk_alloc ?_ _)); exact BK161.out) hb); have n1_ := Aside0.mk (below_step (by repeat (first | (with_reducible first | exact HB.out | apply below_alloc | apply pw_below_drewN | apply below_drew1 | refine below_set ?_ GE161.out) | exact HB.out)) hb); clear BK161; clear HB; have BK161 := n0_; have HB := n1_; clear n0_ n1_; (try clear hb); (try clear hb2); (try clear hk); (try clear hi)) | ((with_reducible refine gate_dst (N := 3) rfl ?_); refine box_event ?hg (N := 3) ?hd (cs := #[.string (⟨#[]⟩ : ByteArray), .int .i64 0]) (t := 23) ?hr ?_; (case hd => rfl); (case hg => rfl); (case hr => first | (go_simp; done) | (go_simp; rfl)); intro gb165 hg w12 hbox hb; have n0_ := Aside0.mk (blk_below (g := gb161) (o := .cells #[.string t158, .int .i64 t159] 23 (0, 0)) (by (with_reducible repeat (first | refine blk_drewN ?_ _ | refine blk_drew ?_ | refine blk_alloc ?_ _)); exact BK161.out) hb); have n1_ := Aside0.mk (below_step (by repeat (first | (with_reducible first | exact HB.out | apply below_alloc | apply pw_below_drewN | apply below_drew1 | refine below_set ?_ GE161.out) | exact HB.out)) hb); have n2_ := Aside0.mk (hbox); have n3_ := Aside0.mk ((by rw [hg]; exact (below_size (by repeat (first | (with_reducible first | exact HB.out | apply below_alloc | apply pw_below_drewN | apply below_drew1 | refine below_set ?_ GE161.out) | exact HB.out))) : w.heap.size ≤ gb165)); have n4_ := Aside0.mk ((by rw [hg]; exact (below_size (by repeat (first | (with_reducible first | exact HB.out | apply below_alloc | apply pw_below_drewN | apply below_drew1 | refine below_set ?_ GE161.out) | exact HB.out))) : w.heap.size ≤ gb165)); have n5_ := Aside0.mk ((by rw [hg]; exact Nat.ne_of_lt (blk_lt (g := gb161) (o := .cells #[.string t158, .int .i64 t159] 23 (0, 0)) (by (with_reducible repeat (first | refine blk_drewN ?_ _ | refine blk_drew ?_ | refine blk_alloc ?_ _)); exact BK161.out)) : gb161 ≠ gb165)); have n6_ := Aside0.mk ((by rw [hg]; exact Nat.ne_of_gt (blk_lt (g := gb161) (o := .cells #[.string t158, .int .i64 t159] 23 (0, 0)) (by (with_reducible repeat (first | refine blk_drewN ?_ _ | refine blk_drew ?_ | refine blk_alloc ?_ _)); exact BK161.out)) : gb165 ≠ gb161)); clear BK161; clear HB; have BK161 := n0_; have HB := n1_; have BK165 := n2_; have GW165 := n3_; have GE165 := n4_; have NB161_165 := n5_; have NB165_161 := n6_; clear n0_ n1_ n2_ n3_ n4_ n5_ n6_; clear hb hbox hg; have hnb13 := NB165_161.out; have hnc13 := NB161_165.out; have hcz14_0 : w12.cell? ⟨gb165, 0, none⟩ = some (.string (⟨#[]⟩ : ByteArray)) := (blk_cell BK165.out 0).trans rfl; have hcz14_1 : w12.cell? ⟨gb165, 1, none⟩ = some (.int .i64 0) := (blk_cell BK165.out 1).trans rfl; have hfz14_0 := blk_frozen BK165.out 0; have hfz14_1 := blk_frozen BK165.out 1) | ((with_reducible refine gate_callee (f := 13) rfl ?_); refine goesL_ (some 18) rfl rfl Tryd.func13 (by kernel_rfl) rfl #[.agg #[.string (⟨#[49, 120]⟩ : ByteArray), .int .i64 0]] rfl (by (try simp only [List.map_toArray, List.map_cons, List.map_nil]); first | done | rfl | (simp only [List.length_drop, List.length_take]; rfl)) ?_; (with_reducible refine (bigdec_Norm.calls k (⟨#[49, 120]⟩ : ByteArray) 0 t166 t167 t168 _ A3.out).mono ?_); rintro e w15 ⟨rfl, hb⟩; refine ⟨_, rfl, ?_⟩; have n0_ := Aside0.mk (blk_below (g := gb161) (o := .cells #[.string t158, .int .i64 t159] 23 (0, 0)) (by (with_reducible repeat (first | refine blk_drewN ?_ _ | refine blk_drew ?_ | refine blk_alloc ?_ _)); refine blk_far ?_ NB161_165.out _; (with_reducible repeat (first | refine blk_drewN ?_ _ | refine blk_drew ?_ | refine blk_alloc ?_ _)); refine blk_far ?_ NB161_165.out _; (with_reducible repeat (first | refine blk_drewN ?_ _ | refine blk_drew ?_ | refine blk_alloc ?_ _)); exact BK161.out) hb); have n1_ := Aside0.mk (blk_below (g := gb165) (o := .cells #[.string t162, .int .i64 t163] 23 (0, 0)) (by (with_reducible repeat (first | refine blk_drewN ?_ _ | refine blk_drew ?_ | refine blk_alloc ?_ _)); refine blk_put (cs := #[.string t162, .int .i64 0]) ?_ 1 _ rfl; (with_reducible repeat (first | refine blk_drewN ?_ _ | refine blk_drew ?_ | refine blk_alloc ?_ _)); refine blk_put (cs := #[.string (⟨#[]⟩ : ByteArray), .int .i64 0]) ?_ 0 _ rfl; (with_reducible repeat (first | refine blk_drewN ?_ _ | refine blk_drew ?_ | refine blk_alloc ?_ _)); exact BK165.out) hb); have n2_ := Aside0.mk (below_step (by repeat (first | (with_reducible first | exact HB.out | apply below_alloc | apply pw_below_drewN | apply below_drew1 | refine below_set ?_ GE161.out | refine below_set ?_ GE165.out) | exact HB.out)) hb); clear BK161; clear BK165; clear HB; have BK161 := n0_; have BK165 := n1_; have HB := n2_; clear n0_ n1_ n2_; (try clear hb); (try clear hb2); (try clear hk); (try clear hi)) | ((with_reducible refine gate_dst (N := 5) rfl ?_); refine box_event ?hg (N := 5) ?hd (cs := #[.string (⟨#[]⟩ : ByteArray), .int .i64 0]) (t := 23) ?hr ?_; (case hd => rfl); (case hg => rfl); (case hr => first | (go_simp; done) | (go_simp; rfl)); intro gb169 hg w16 hbox hb; have n0_ := Aside0.mk (blk_below (g := gb161) (o := .cells #[.string t158, .int .i64 t159] 23 (0, 0)) (by (with_reducible repeat (first | refine blk_drewN ?_ _ | refine blk_drew ?_ | refine blk_alloc ?_ _)); exact BK161.out) hb); have n1_ := Aside0.mk (blk_below (g := gb165) (o := .cells #[.string t162, .int .i64 t163] 23 (0, 0)) (by (with_reducible repeat (first | refine blk_drewN ?_ _ | refine blk_drew ?_ | refine blk_alloc ?_ _)); exact BK165.out) hb); have n2_ := Aside0.mk (below_step (by repeat (first | (with_reducible first | exact HB.out | apply below_alloc | apply pw_below_drewN | apply below_drew1 | refine below_set ?_ GE161.out | refine below_set ?_ GE165.out) | exact HB.out)) hb); have n3_ := Aside0.mk (hbox); have n4_ := Aside0.mk ((by rw [hg]; exact (below_size (by repeat (first | (with_reducible first | exact HB.out | apply below_alloc | apply pw_below_drewN | apply below_drew1 | refine below_set ?_ GE161.out | refine below_set ?_ GE165.out) | exact HB.out))) : w.heap.size ≤ gb169)); have n5_ := Aside0.mk ((by rw [hg]; exact (below_size (by repeat (first | (with_reducible first | exact HB.out | apply below_alloc | apply pw_below_drewN | apply below_drew1 | refine below_set ?_ GE161.out | refine below_set ?_ GE165.out) | exact HB.out))) : w.heap.size ≤ gb169)); have n6_ := Aside0.mk ((by rw [hg]; exact Nat.ne_of_lt (blk_lt (g := gb161) (o := .cells #[.string t158, .int .i64 t159] 23 (0, 0)) (by (with_reducible repeat (first | refine blk_drewN ?_ _ | refine blk_drew ?_ | refine blk_alloc ?_ _)); exact BK161.out)) : gb161 ≠ gb169)); have n7_ := Aside0.mk ((by rw [hg]; exact Nat.ne_of_gt (blk_lt (g := gb161) (o := .cells #[.string t158, .int .i64 t159] 23 (0, 0)) (by (with_reducible repeat (first | refine blk_drewN ?_ _ | refine blk_drew ?_ | refine blk_alloc ?_ _)); exact BK161.out)) : gb169 ≠ gb161)); have n8_ := Aside0.mk ((by rw [hg]; exact Nat.ne_of_lt (blk_lt (g := gb165) (o := .cells #[.string t162, .int .i64 t163] 23 (0, 0)) (by (with_reducible repeat (first | refine blk_drewN ?_ _ | refine blk_drew ?_ | refine blk_alloc ?_ _)); exact BK165.out)) : gb165 ≠ gb169)); have n9_ := Aside0.mk ((by rw [hg]; exact Nat.ne_of_gt (blk_lt (g := gb165) (o := .cells #[.string t162, .int .i64 t163] 23 (0, 0)) (by (with_reducible repeat (first | refine blk_drewN ?_ _ | refine blk_drew ?_ | refine blk_alloc ?_ _)); exact BK165.out)) : gb169 ≠ gb165)); clear BK161; clear BK165; clear HB; have BK161 := n0_; have BK165 := n1_; have HB := n2_; have BK169 := n3_; have GW169 := n4_; have GE169 := n5_; have NB161_169 := n6_; have NB169_161 := n7_; have NB165_169 := n8_; have NB169_165 := n9_; clear n0_ n1_ n2_ n3_ n4_ n5_ n6_ n7_ n8_ n9_; clear hb hbox hg; have hnb17 := NB169_161.out; have hnc17 := NB161_169.out; have hnb18 := NB169_165.out; have hnc18 := NB165_169.out; have hcz19_0 : w16.cell? ⟨gb169, 0, none⟩ = some (.string (⟨#[]⟩ : ByteArray)) := (blk_cell BK169.out 0).trans rfl; have hcz19_1 : w16.cell? ⟨gb169, 1, none⟩ = some (.int .i64 0) := (blk_cell BK169.out 1).trans rfl; have hfz19_0 := blk_frozen BK169.out 0; have hfz19_1 := blk_frozen BK169.out 1; have hcz20_0 : w16.cell? ⟨gb161, 0, none⟩ = some (.string t158) := (blk_cell BK161.out 0).trans rfl; have hcz20_1 : w16.cell? ⟨gb161, 1, none⟩ = some (.int .i64 t159) := (blk_cell BK161.out 1).trans rfl; have hfz20_0 := blk_frozen BK161.out 0; have hfz20_1 := blk_frozen BK161.out 1; have hcz21_0 : w16.cell? ⟨gb165, 0, none⟩ = some (.string t162) := (blk_cell BK165.out 0).trans rfl; have hcz21_1 : w16.cell? ⟨gb165, 1, none⟩ = some (.int .i64 t163) := (blk_cell BK165.out 1).trans rfl; have hfz21_0 := blk_frozen BK165.out 0; have hfz21_1 := blk_frozen BK165.out 1))
     go_ret
     exact ⟨by first | rfl | (simp [errW_none, errW_some] <;> rfl) | (simp [*, errW_none, errW_some] <;> rfl), by repeat (first | (with_reducible first | exact HB.out | apply below_alloc | apply pw_below_drewN | apply below_drew1 | refine below_set ?_ GE161.out | refine below_set ?_ GE165.out | refine below_set ?_ GE169.out) | exact HB.out)⟩
    ·rw [if_neg c7] at H
     have c7b0 : (t158.toList == ([53] : List UInt8) && (t159 == 0)) = false := by simpa using c7
     (try (have c7b1 : decide (t158.toList = ([53] : List UInt8) && (t159 == 0)) = false := by simpa using c7))
     (try (have c7b2 : (t158.toList == ([53] : List UInt8) && (t159 == 0)) = false := by simpa using c7))
     (try (have c7b3 : ¬ (t158.toList = ([53] : List UInt8) && (t159 == 0)) := by simpa using c7))
     clear c7
     obtain rfl := Option.some.inj H
     go_enter Tryd.func15, Tryd.ntmps15
     go_wp2_with (first | ((with_reducible refine gate_callee (f := 16) rfl ?_); refine goesL_ (some 8) rfl rfl Tryd.func16 (by kernel_rfl) rfl #[.int .u64 1, .int .i64 (-1)] rfl (by (try simp only [List.map_toArray, List.map_cons, List.map_nil]); first | done | rfl | (simp only [List.length_drop, List.length_take]; rfl)) ?_; (with_reducible refine (bigdec_Exact.calls k 1 (-1) t158 t159 t160 _ A1.out).mono ?_); rintro e w22 ⟨rfl, hb⟩; refine ⟨_, rfl, ?_⟩; have n0_ := Aside0.mk (below_step (by repeat (first | (with_reducible first | exact HB.out | apply below_alloc | apply pw_below_drewN | apply below_drew1) | exact HB.out)) hb); clear HB; have HB := n0_; clear n0_; (try clear hb); (try clear hb2); (try clear hk); (try clear hi)) | ((with_reducible refine gate_dst (N := 1) rfl ?_); refine box_event ?hg (N := 1) ?hd (cs := #[.string (⟨#[]⟩ : ByteArray), .int .i64 0]) (t := 23) ?hr ?_; (case hd => rfl); (case hg => rfl); (case hr => first | (go_simp; done) | (go_simp; rfl)); intro gb161 hg w23 hbox hb; have n0_ := Aside0.mk (below_step (by repeat (first | (with_reducible first | exact HB.out | apply below_alloc | apply pw_below_drewN | apply below_drew1) | exact HB.out)) hb); have n1_ := Aside0.mk (hbox); have n2_ := Aside0.mk ((by rw [hg]; exact (below_size (by repeat (first | (with_reducible first | exact HB.out | apply below_alloc | apply pw_below_drewN | apply below_drew1) | exact HB.out))) : w.heap.size ≤ gb161)); have n3_ := Aside0.mk ((by rw [hg]; exact (below_size (by repeat (first | (with_reducible first | exact HB.out | apply below_alloc | apply pw_below_drewN | apply below_drew1) | exact HB.out))) : w.heap.size ≤ gb161)); clear HB; have HB := n0_; have BK161 := n1_; have GW161 := n2_; have GE161 := n3_; clear n0_ n1_ n2_ n3_; clear hb hbox hg; have hcz24_0 : w23.cell? ⟨gb161, 0, none⟩ = some (.string (⟨#[]⟩ : ByteArray)) := (blk_cell BK161.out 0).trans rfl; have hcz24_1 : w23.cell? ⟨gb161, 1, none⟩ = some (.int .i64 0) := (blk_cell BK161.out 1).trans rfl; have hfz24_0 := blk_frozen BK161.out 0; have hfz24_1 := blk_frozen BK161.out 1) | ((with_reducible refine gate_callee (f := 18) rfl ?_); refine goesL_ (some 13) rfl rfl Tryd.func18 (by kernel_rfl) rfl #[.agg #[.string (⟨#[57, 57, 53]⟩ : ByteArray), .int .i64 1], .int .i64 2] rfl (by (try simp only [List.map_toArray, List.map_cons, List.map_nil]); first | done | rfl | (simp only [List.length_drop, List.length_take]; rfl)) ?_; (with_reducible refine (bigdec_Round.calls k (⟨#[57, 57, 53]⟩ : ByteArray) 1 2 t162 t163 t164 _ A2.out).mono ?_); rintro e w25 ⟨rfl, hb⟩; refine ⟨_, rfl, ?_⟩; have n0_ := Aside0.mk (blk_below (g := gb161) (o := .cells #[.string t158, .int .i64 t159] 23 (0, 0)) (by (with_reducible repeat (first | refine blk_drewN ?_ _ | refine blk_drew ?_ | refine blk_alloc ?_ _)); refine blk_put (cs := #[.string t158, .int .i64 0]) ?_ 1 _ rfl; (with_reducible repeat (first | refine blk_drewN ?_ _ | refine blk_drew ?_ | refine blk_alloc ?_ _)); refine blk_put (cs := #[.string (⟨#[]⟩ : ByteArray), .int .i64 0]) ?_ 0 _ rfl; (with_reducible repeat (first | refine blk_drewN ?_ _ | refine blk_drew ?_ | refine blk_alloc ?_ _)); exact BK161.out) hb); have n1_ := Aside0.mk (below_step (by repeat (first | (with_reducible first | exact HB.out | apply below_alloc | apply pw_below_drewN | apply below_drew1 | refine below_set ?_ GE161.out) | exact HB.out)) hb); clear BK161; clear HB; have BK161 := n0_; have HB := n1_; clear n0_ n1_; (try clear hb); (try clear hb2); (try clear hk); (try clear hi)) | ((with_reducible refine gate_dst (N := 3) rfl ?_); refine box_event ?hg (N := 3) ?hd (cs := #[.string (⟨#[]⟩ : ByteArray), .int .i64 0]) (t := 23) ?hr ?_; (case hd => rfl); (case hg => rfl); (case hr => first | (go_simp; done) | (go_simp; rfl)); intro gb165 hg w26 hbox hb; have n0_ := Aside0.mk (blk_below (g := gb161) (o := .cells #[.string t158, .int .i64 t159] 23 (0, 0)) (by (with_reducible repeat (first | refine blk_drewN ?_ _ | refine blk_drew ?_ | refine blk_alloc ?_ _)); exact BK161.out) hb); have n1_ := Aside0.mk (below_step (by repeat (first | (with_reducible first | exact HB.out | apply below_alloc | apply pw_below_drewN | apply below_drew1 | refine below_set ?_ GE161.out) | exact HB.out)) hb); have n2_ := Aside0.mk (hbox); have n3_ := Aside0.mk ((by rw [hg]; exact (below_size (by repeat (first | (with_reducible first | exact HB.out | apply below_alloc | apply pw_below_drewN | apply below_drew1 | refine below_set ?_ GE161.out) | exact HB.out))) : w.heap.size ≤ gb165)); have n4_ := Aside0.mk ((by rw [hg]; exact (below_size (by repeat (first | (with_reducible first | exact HB.out | apply below_alloc | apply pw_below_drewN | apply below_drew1 | refine below_set ?_ GE161.out) | exact HB.out))) : w.heap.size ≤ gb165)); have n5_ := Aside0.mk ((by rw [hg]; exact Nat.ne_of_lt (blk_lt (g := gb161) (o := .cells #[.string t158, .int .i64 t159] 23 (0, 0)) (by (with_reducible repeat (first | refine blk_drewN ?_ _ | refine blk_drew ?_ | refine blk_alloc ?_ _)); exact BK161.out)) : gb161 ≠ gb165)); have n6_ := Aside0.mk ((by rw [hg]; exact Nat.ne_of_gt (blk_lt (g := gb161) (o := .cells #[.string t158, .int .i64 t159] 23 (0, 0)) (by (with_reducible repeat (first | refine blk_drewN ?_ _ | refine blk_drew ?_ | refine blk_alloc ?_ _)); exact BK161.out)) : gb165 ≠ gb161)); clear BK161; clear HB; have BK161 := n0_; have HB := n1_; have BK165 := n2_; have GW165 := n3_; have GE165 := n4_; have NB161_165 := n5_; have NB165_161 := n6_; clear n0_ n1_ n2_ n3_ n4_ n5_ n6_; clear hb hbox hg; have hnb27 := NB165_161.out; have hnc27 := NB161_165.out; have hcz28_0 : w26.cell? ⟨gb165, 0, none⟩ = some (.string (⟨#[]⟩ : ByteArray)) := (blk_cell BK165.out 0).trans rfl; have hcz28_1 : w26.cell? ⟨gb165, 1, none⟩ = some (.int .i64 0) := (blk_cell BK165.out 1).trans rfl; have hfz28_0 := blk_frozen BK165.out 0; have hfz28_1 := blk_frozen BK165.out 1) | ((with_reducible refine gate_callee (f := 13) rfl ?_); refine goesL_ (some 18) rfl rfl Tryd.func13 (by kernel_rfl) rfl #[.agg #[.string (⟨#[49, 120]⟩ : ByteArray), .int .i64 0]] rfl (by (try simp only [List.map_toArray, List.map_cons, List.map_nil]); first | done | rfl | (simp only [List.length_drop, List.length_take]; rfl)) ?_; (with_reducible refine (bigdec_Norm.calls k (⟨#[49, 120]⟩ : ByteArray) 0 t166 t167 t168 _ A3.out).mono ?_); rintro e w29 ⟨rfl, hb⟩; refine ⟨_, rfl, ?_⟩; have n0_ := Aside0.mk (blk_below (g := gb161) (o := .cells #[.string t158, .int .i64 t159] 23 (0, 0)) (by (with_reducible repeat (first | refine blk_drewN ?_ _ | refine blk_drew ?_ | refine blk_alloc ?_ _)); refine blk_far ?_ NB161_165.out _; (with_reducible repeat (first | refine blk_drewN ?_ _ | refine blk_drew ?_ | refine blk_alloc ?_ _)); refine blk_far ?_ NB161_165.out _; (with_reducible repeat (first | refine blk_drewN ?_ _ | refine blk_drew ?_ | refine blk_alloc ?_ _)); exact BK161.out) hb); have n1_ := Aside0.mk (blk_below (g := gb165) (o := .cells #[.string t162, .int .i64 t163] 23 (0, 0)) (by (with_reducible repeat (first | refine blk_drewN ?_ _ | refine blk_drew ?_ | refine blk_alloc ?_ _)); refine blk_put (cs := #[.string t162, .int .i64 0]) ?_ 1 _ rfl; (with_reducible repeat (first | refine blk_drewN ?_ _ | refine blk_drew ?_ | refine blk_alloc ?_ _)); refine blk_put (cs := #[.string (⟨#[]⟩ : ByteArray), .int .i64 0]) ?_ 0 _ rfl; (with_reducible repeat (first | refine blk_drewN ?_ _ | refine blk_drew ?_ | refine blk_alloc ?_ _)); exact BK165.out) hb); have n2_ := Aside0.mk (below_step (by repeat (first | (with_reducible first | exact HB.out | apply below_alloc | apply pw_below_drewN | apply below_drew1 | refine below_set ?_ GE161.out | refine below_set ?_ GE165.out) | exact HB.out)) hb); clear BK161; clear BK165; clear HB; have BK161 := n0_; have BK165 := n1_; have HB := n2_; clear n0_ n1_ n2_; (try clear hb); (try clear hb2); (try clear hk); (try clear hi)) | ((with_reducible refine gate_dst (N := 5) rfl ?_); refine box_event ?hg (N := 5) ?hd (cs := #[.string (⟨#[]⟩ : ByteArray), .int .i64 0]) (t := 23) ?hr ?_; (case hd => rfl); (case hg => rfl); (case hr => first | (go_simp; done) | (go_simp; rfl)); intro gb169 hg w30 hbox hb; have n0_ := Aside0.mk (blk_below (g := gb161) (o := .cells #[.string t158, .int .i64 t159] 23 (0, 0)) (by (with_reducible repeat (first | refine blk_drewN ?_ _ | refine blk_drew ?_ | refine blk_alloc ?_ _)); exact BK161.out) hb); have n1_ := Aside0.mk (blk_below (g := gb165) (o := .cells #[.string t162, .int .i64 t163] 23 (0, 0)) (by (with_reducible repeat (first | refine blk_drewN ?_ _ | refine blk_drew ?_ | refine blk_alloc ?_ _)); exact BK165.out) hb); have n2_ := Aside0.mk (below_step (by repeat (first | (with_reducible first | exact HB.out | apply below_alloc | apply pw_below_drewN | apply below_drew1 | refine below_set ?_ GE161.out | refine below_set ?_ GE165.out) | exact HB.out)) hb); have n3_ := Aside0.mk (hbox); have n4_ := Aside0.mk ((by rw [hg]; exact (below_size (by repeat (first | (with_reducible first | exact HB.out | apply below_alloc | apply pw_below_drewN | apply below_drew1 | refine below_set ?_ GE161.out | refine below_set ?_ GE165.out) | exact HB.out))) : w.heap.size ≤ gb169)); have n5_ := Aside0.mk ((by rw [hg]; exact (below_size (by repeat (first | (with_reducible first | exact HB.out | apply below_alloc | apply pw_below_drewN | apply below_drew1 | refine below_set ?_ GE161.out | refine below_set ?_ GE165.out) | exact HB.out))) : w.heap.size ≤ gb169)); have n6_ := Aside0.mk ((by rw [hg]; exact Nat.ne_of_lt (blk_lt (g := gb161) (o := .cells #[.string t158, .int .i64 t159] 23 (0, 0)) (by (with_reducible repeat (first | refine blk_drewN ?_ _ | refine blk_drew ?_ | refine blk_alloc ?_ _)); exact BK161.out)) : gb161 ≠ gb169)); have n7_ := Aside0.mk ((by rw [hg]; exact Nat.ne_of_gt (blk_lt (g := gb161) (o := .cells #[.string t158, .int .i64 t159] 23 (0, 0)) (by (with_reducible repeat (first | refine blk_drewN ?_ _ | refine blk_drew ?_ | refine blk_alloc ?_ _)); exact BK161.out)) : gb169 ≠ gb161)); have n8_ := Aside0.mk ((by rw [hg]; exact Nat.ne_of_lt (blk_lt (g := gb165) (o := .cells #[.string t162, .int .i64 t163] 23 (0, 0)) (by (with_reducible repeat (first | refine blk_drewN ?_ _ | refine blk_drew ?_ | refine blk_alloc ?_ _)); exact BK165.out)) : gb165 ≠ gb169)); have n9_ := Aside0.mk ((by rw [hg]; exact Nat.ne_of_gt (blk_lt (g := gb165) (o := .cells #[.string t162, .int .i64 t163] 23 (0, 0)) (by (with_reducible repeat (first | refine blk_drewN ?_ _ | refine blk_drew ?_ | refine blk_alloc ?_ _)); exact BK165.out)) : gb169 ≠ gb165)); clear BK161; clear BK165; clear HB; have BK161 := n0_; have BK165 := n1_; have HB := n2_; have BK169 := n3_; have GW169 := n4_; have GE169 := n5_; have NB161_169 := n6_; have NB169_161 := n7_; have NB165_169 := n8_; have NB169_165 := n9_; clear n0_ n1_ n2_ n3_ n4_ n5_ n6_ n7_ n8_ n9_; clear hb hbox hg; have hnb31 := NB169_161.out; have hnc31 := NB161_169.out; have hnb32 := NB169_165.out; have hnc32 := NB165_169.out; have hcz33_0 : w30.cell? ⟨gb169, 0, none⟩ = some (.string (⟨#[]⟩ : ByteArray)) := (blk_cell BK169.out 0).trans rfl; have hcz33_1 : w30.cell? ⟨gb169, 1, none⟩ = some (.int .i64 0) := (blk_cell BK169.out 1).trans rfl; have hfz33_0 := blk_frozen BK169.out 0; have hfz33_1 := blk_frozen BK169.out 1; have hcz34_0 : w30.cell? ⟨gb161, 0, none⟩ = some (.string t158) := (blk_cell BK161.out 0).trans rfl; have hcz34_1 : w30.cell? ⟨gb161, 1, none⟩ = some (.int .i64 t159) := (blk_cell BK161.out 1).trans rfl; have hfz34_0 := blk_frozen BK161.out 0; have hfz34_1 := blk_frozen BK161.out 1))
     go_ret
     exact ⟨by first | rfl | (simp [errW_none, errW_some] <;> rfl) | (simp [*, errW_none, errW_some] <;> rfl), by repeat (first | (with_reducible first | exact HB.out | apply below_alloc | apply pw_below_drewN | apply below_drew1 | refine below_set ?_ GE161.out | refine below_set ?_ GE165.out | refine below_set ?_ GE169.out) | exact HB.out)⟩
   ·rw [if_neg c6] at H
    have c6b0 : (t168 == 4) = false := beq_eq_false_iff_ne.mpr c6
    have c6b1 : (t168 != 4) = true := bne_iff_ne.mpr c6
    obtain rfl := Option.some.inj H
    go_enter Tryd.func15, Tryd.ntmps15
    go_wp2_with (first | ((with_reducible refine gate_callee (f := 16) rfl ?_); refine goesL_ (some 8) rfl rfl Tryd.func16 (by kernel_rfl) rfl #[.int .u64 1, .int .i64 (-1)] rfl (by (try simp only [List.map_toArray, List.map_cons, List.map_nil]); first | done | rfl | (simp only [List.length_drop, List.length_take]; rfl)) ?_; (with_reducible refine (bigdec_Exact.calls k 1 (-1) t158 t159 t160 _ A1.out).mono ?_); rintro e w35 ⟨rfl, hb⟩; refine ⟨_, rfl, ?_⟩; have n0_ := Aside0.mk (below_step (by repeat (first | (with_reducible first | exact HB.out | apply below_alloc | apply pw_below_drewN | apply below_drew1) | exact HB.out)) hb); clear HB; have HB := n0_; clear n0_; (try clear hb); (try clear hb2); (try clear hk); (try clear hi)) | ((with_reducible refine gate_dst (N := 1) rfl ?_); refine box_event ?hg (N := 1) ?hd (cs := #[.string (⟨#[]⟩ : ByteArray), .int .i64 0]) (t := 23) ?hr ?_; (case hd => rfl); (case hg => rfl); (case hr => first | (go_simp; done) | (go_simp; rfl)); intro gb161 hg w36 hbox hb; have n0_ := Aside0.mk (below_step (by repeat (first | (with_reducible first | exact HB.out | apply below_alloc | apply pw_below_drewN | apply below_drew1) | exact HB.out)) hb); have n1_ := Aside0.mk (hbox); have n2_ := Aside0.mk ((by rw [hg]; exact (below_size (by repeat (first | (with_reducible first | exact HB.out | apply below_alloc | apply pw_below_drewN | apply below_drew1) | exact HB.out))) : w.heap.size ≤ gb161)); have n3_ := Aside0.mk ((by rw [hg]; exact (below_size (by repeat (first | (with_reducible first | exact HB.out | apply below_alloc | apply pw_below_drewN | apply below_drew1) | exact HB.out))) : w.heap.size ≤ gb161)); clear HB; have HB := n0_; have BK161 := n1_; have GW161 := n2_; have GE161 := n3_; clear n0_ n1_ n2_ n3_; clear hb hbox hg; have hcz37_0 : w36.cell? ⟨gb161, 0, none⟩ = some (.string (⟨#[]⟩ : ByteArray)) := (blk_cell BK161.out 0).trans rfl; have hcz37_1 : w36.cell? ⟨gb161, 1, none⟩ = some (.int .i64 0) := (blk_cell BK161.out 1).trans rfl; have hfz37_0 := blk_frozen BK161.out 0; have hfz37_1 := blk_frozen BK161.out 1) | ((with_reducible refine gate_callee (f := 18) rfl ?_); refine goesL_ (some 13) rfl rfl Tryd.func18 (by kernel_rfl) rfl #[.agg #[.string (⟨#[57, 57, 53]⟩ : ByteArray), .int .i64 1], .int .i64 2] rfl (by (try simp only [List.map_toArray, List.map_cons, List.map_nil]); first | done | rfl | (simp only [List.length_drop, List.length_take]; rfl)) ?_; (with_reducible refine (bigdec_Round.calls k (⟨#[57, 57, 53]⟩ : ByteArray) 1 2 t162 t163 t164 _ A2.out).mono ?_); rintro e w38 ⟨rfl, hb⟩; refine ⟨_, rfl, ?_⟩; have n0_ := Aside0.mk (blk_below (g := gb161) (o := .cells #[.string t158, .int .i64 t159] 23 (0, 0)) (by (with_reducible repeat (first | refine blk_drewN ?_ _ | refine blk_drew ?_ | refine blk_alloc ?_ _)); refine blk_put (cs := #[.string t158, .int .i64 0]) ?_ 1 _ rfl; (with_reducible repeat (first | refine blk_drewN ?_ _ | refine blk_drew ?_ | refine blk_alloc ?_ _)); refine blk_put (cs := #[.string (⟨#[]⟩ : ByteArray), .int .i64 0]) ?_ 0 _ rfl; (with_reducible repeat (first | refine blk_drewN ?_ _ | refine blk_drew ?_ | refine blk_alloc ?_ _)); exact BK161.out) hb); have n1_ := Aside0.mk (below_step (by repeat (first | (with_reducible first | exact HB.out | apply below_alloc | apply pw_below_drewN | apply below_drew1 | refine below_set ?_ GE161.out) | exact HB.out)) hb); clear BK161; clear HB; have BK161 := n0_; have HB := n1_; clear n0_ n1_; (try clear hb); (try clear hb2); (try clear hk); (try clear hi)) | ((with_reducible refine gate_dst (N := 3) rfl ?_); refine box_event ?hg (N := 3) ?hd (cs := #[.string (⟨#[]⟩ : ByteArray), .int .i64 0]) (t := 23) ?hr ?_; (case hd => rfl); (case hg => rfl); (case hr => first | (go_simp; done) | (go_simp; rfl)); intro gb165 hg w39 hbox hb; have n0_ := Aside0.mk (blk_below (g := gb161) (o := .cells #[.string t158, .int .i64 t159] 23 (0, 0)) (by (with_reducible repeat (first | refine blk_drewN ?_ _ | refine blk_drew ?_ | refine blk_alloc ?_ _)); exact BK161.out) hb); have n1_ := Aside0.mk (below_step (by repeat (first | (with_reducible first | exact HB.out | apply below_alloc | apply pw_below_drewN | apply below_drew1 | refine below_set ?_ GE161.out) | exact HB.out)) hb); have n2_ := Aside0.mk (hbox); have n3_ := Aside0.mk ((by rw [hg]; exact (below_size (by repeat (first | (with_reducible first | exact HB.out | apply below_alloc | apply pw_below_drewN | apply below_drew1 | refine below_set ?_ GE161.out) | exact HB.out))) : w.heap.size ≤ gb165)); have n4_ := Aside0.mk ((by rw [hg]; exact (below_size (by repeat (first | (with_reducible first | exact HB.out | apply below_alloc | apply pw_below_drewN | apply below_drew1 | refine below_set ?_ GE161.out) | exact HB.out))) : w.heap.size ≤ gb165)); have n5_ := Aside0.mk ((by rw [hg]; exact Nat.ne_of_lt (blk_lt (g := gb161) (o := .cells #[.string t158, .int .i64 t159] 23 (0, 0)) (by (with_reducible repeat (first | refine blk_drewN ?_ _ | refine blk_drew ?_ | refine blk_alloc ?_ _)); exact BK161.out)) : gb161 ≠ gb165)); have n6_ := Aside0.mk ((by rw [hg]; exact Nat.ne_of_gt (blk_lt (g := gb161) (o := .cells #[.string t158, .int .i64 t159] 23 (0, 0)) (by (with_reducible repeat (first | refine blk_drewN ?_ _ | refine blk_drew ?_ | refine blk_alloc ?_ _)); exact BK161.out)) : gb165 ≠ gb161)); clear BK161; clear HB; have BK161 := n0_; have HB := n1_; have BK165 := n2_; have GW165 := n3_; have GE165 := n4_; have NB161_165 := n5_; have NB165_161 := n6_; clear n0_ n1_ n2_ n3_ n4_ n5_ n6_; clear hb hbox hg; have hnb40 := NB165_161.out; have hnc40 := NB161_165.out; have hcz41_0 : w39.cell? ⟨gb165, 0, none⟩ = some (.string (⟨#[]⟩ : ByteArray)) := (blk_cell BK165.out 0).trans rfl; have hcz41_1 : w39.cell? ⟨gb165, 1, none⟩ = some (.int .i64 0) := (blk_cell BK165.out 1).trans rfl; have hfz41_0 := blk_frozen BK165.out 0; have hfz41_1 := blk_frozen BK165.out 1) | ((with_reducible refine gate_callee (f := 13) rfl ?_); refine goesL_ (some 18) rfl rfl Tryd.func13 (by kernel_rfl) rfl #[.agg #[.string (⟨#[49, 120]⟩ : ByteArray), .int .i64 0]] rfl (by (try simp only [List.map_toArray, List.map_cons, List.map_nil]); first | done | rfl | (simp only [List.length_drop, List.length_take]; rfl)) ?_; (with_reducible refine (bigdec_Norm.calls k (⟨#[49, 120]⟩ : ByteArray) 0 t166 t167 t168 _ A3.out).mono ?_); rintro e w42 ⟨rfl, hb⟩; refine ⟨_, rfl, ?_⟩; have n0_ := Aside0.mk (blk_below (g := gb161) (o := .cells #[.string t158, .int .i64 t159] 23 (0, 0)) (by (with_reducible repeat (first | refine blk_drewN ?_ _ | refine blk_drew ?_ | refine blk_alloc ?_ _)); refine blk_far ?_ NB161_165.out _; (with_reducible repeat (first | refine blk_drewN ?_ _ | refine blk_drew ?_ | refine blk_alloc ?_ _)); refine blk_far ?_ NB161_165.out _; (with_reducible repeat (first | refine blk_drewN ?_ _ | refine blk_drew ?_ | refine blk_alloc ?_ _)); exact BK161.out) hb); have n1_ := Aside0.mk (blk_below (g := gb165) (o := .cells #[.string t162, .int .i64 t163] 23 (0, 0)) (by (with_reducible repeat (first | refine blk_drewN ?_ _ | refine blk_drew ?_ | refine blk_alloc ?_ _)); refine blk_put (cs := #[.string t162, .int .i64 0]) ?_ 1 _ rfl; (with_reducible repeat (first | refine blk_drewN ?_ _ | refine blk_drew ?_ | refine blk_alloc ?_ _)); refine blk_put (cs := #[.string (⟨#[]⟩ : ByteArray), .int .i64 0]) ?_ 0 _ rfl; (with_reducible repeat (first | refine blk_drewN ?_ _ | refine blk_drew ?_ | refine blk_alloc ?_ _)); exact BK165.out) hb); have n2_ := Aside0.mk (below_step (by repeat (first | (with_reducible first | exact HB.out | apply below_alloc | apply pw_below_drewN | apply below_drew1 | refine below_set ?_ GE161.out | refine below_set ?_ GE165.out) | exact HB.out)) hb); clear BK161; clear BK165; clear HB; have BK161 := n0_; have BK165 := n1_; have HB := n2_; clear n0_ n1_ n2_; (try clear hb); (try clear hb2); (try clear hk); (try clear hi)) | ((with_reducible refine gate_dst (N := 5) rfl ?_); refine box_event ?hg (N := 5) ?hd (cs := #[.string (⟨#[]⟩ : ByteArray), .int .i64 0]) (t := 23) ?hr ?_; (case hd => rfl); (case hg => rfl); (case hr => first | (go_simp; done) | (go_simp; rfl)); intro gb169 hg w43 hbox hb; have n0_ := Aside0.mk (blk_below (g := gb161) (o := .cells #[.string t158, .int .i64 t159] 23 (0, 0)) (by (with_reducible repeat (first | refine blk_drewN ?_ _ | refine blk_drew ?_ | refine blk_alloc ?_ _)); exact BK161.out) hb); have n1_ := Aside0.mk (blk_below (g := gb165) (o := .cells #[.string t162, .int .i64 t163] 23 (0, 0)) (by (with_reducible repeat (first | refine blk_drewN ?_ _ | refine blk_drew ?_ | refine blk_alloc ?_ _)); exact BK165.out) hb); have n2_ := Aside0.mk (below_step (by repeat (first | (with_reducible first | exact HB.out | apply below_alloc | apply pw_below_drewN | apply below_drew1 | refine below_set ?_ GE161.out | refine below_set ?_ GE165.out) | exact HB.out)) hb); have n3_ := Aside0.mk (hbox); have n4_ := Aside0.mk ((by rw [hg]; exact (below_size (by repeat (first | (with_reducible first | exact HB.out | apply below_alloc | apply pw_below_drewN | apply below_drew1 | refine below_set ?_ GE161.out | refine below_set ?_ GE165.out) | exact HB.out))) : w.heap.size ≤ gb169)); have n5_ := Aside0.mk ((by rw [hg]; exact (below_size (by repeat (first | (with_reducible first | exact HB.out | apply below_alloc | apply pw_below_drewN | apply below_drew1 | refine below_set ?_ GE161.out | refine below_set ?_ GE165.out) | exact HB.out))) : w.heap.size ≤ gb169)); have n6_ := Aside0.mk ((by rw [hg]; exact Nat.ne_of_lt (blk_lt (g := gb161) (o := .cells #[.string t158, .int .i64 t159] 23 (0, 0)) (by (with_reducible repeat (first | refine blk_drewN ?_ _ | refine blk_drew ?_ | refine blk_alloc ?_ _)); exact BK161.out)) : gb161 ≠ gb169)); have n7_ := Aside0.mk ((by rw [hg]; exact Nat.ne_of_gt (blk_lt (g := gb161) (o := .cells #[.string t158, .int .i64 t159] 23 (0, 0)) (by (with_reducible repeat (first | refine blk_drewN ?_ _ | refine blk_drew ?_ | refine blk_alloc ?_ _)); exact BK161.out)) : gb169 ≠ gb161)); have n8_ := Aside0.mk ((by rw [hg]; exact Nat.ne_of_lt (blk_lt (g := gb165) (o := .cells #[.string t162, .int .i64 t163] 23 (0, 0)) (by (with_reducible repeat (first | refine blk_drewN ?_ _ | refine blk_drew ?_ | refine blk_alloc ?_ _)); exact BK165.out)) : gb165 ≠ gb169)); have n9_ := Aside0.mk ((by rw [hg]; exact Nat.ne_of_gt (blk_lt (g := gb165) (o := .cells #[.string t162, .int .i64 t163] 23 (0, 0)) (by (with_reducible repeat (first | refine blk_drewN ?_ _ | refine blk_drew ?_ | refine blk_alloc ?_ _)); exact BK165.out)) : gb169 ≠ gb165)); clear BK161; clear BK165; clear HB; have BK161 := n0_; have BK165 := n1_; have HB := n2_; have BK169 := n3_; have GW169 := n4_; have GE169 := n5_; have NB161_169 := n6_; have NB169_161 := n7_; have NB165_169 := n8_; have NB169_165 := n9_; clear n0_ n1_ n2_ n3_ n4_ n5_ n6_ n7_ n8_ n9_; clear hb hbox hg; have hnb44 := NB169_161.out; have hnc44 := NB161_169.out; have hnb45 := NB169_165.out; have hnc45 := NB165_169.out; have hcz46_0 : w43.cell? ⟨gb169, 0, none⟩ = some (.string (⟨#[]⟩ : ByteArray)) := (blk_cell BK169.out 0).trans rfl; have hcz46_1 : w43.cell? ⟨gb169, 1, none⟩ = some (.int .i64 0) := (blk_cell BK169.out 1).trans rfl; have hfz46_0 := blk_frozen BK169.out 0; have hfz46_1 := blk_frozen BK169.out 1))
    go_ret
    exact ⟨by first | rfl | (simp [errW_none, errW_some] <;> rfl) | (simp [*, errW_none, errW_some] <;> rfl), by repeat (first | (with_reducible first | exact HB.out | apply below_alloc | apply pw_below_drewN | apply below_drew1 | refine below_set ?_ GE161.out | refine below_set ?_ GE165.out | refine below_set ?_ GE169.out) | exact HB.out)⟩
  ·rw [if_neg c5] at H
   have c5b0 : (t164 == 0) = false := beq_eq_false_iff_ne.mpr c5
   have c5b1 : (t164 != 0) = true := bne_iff_ne.mpr c5
   obtain rfl := Option.some.inj H
   go_enter Tryd.func15, Tryd.ntmps15
   go_wp2_with (first | ((with_reducible refine gate_callee (f := 16) rfl ?_); refine goesL_ (some 8) rfl rfl Tryd.func16 (by kernel_rfl) rfl #[.int .u64 1, .int .i64 (-1)] rfl (by (try simp only [List.map_toArray, List.map_cons, List.map_nil]); first | done | rfl | (simp only [List.length_drop, List.length_take]; rfl)) ?_; (with_reducible refine (bigdec_Exact.calls k 1 (-1) t158 t159 t160 _ A1.out).mono ?_); rintro e w47 ⟨rfl, hb⟩; refine ⟨_, rfl, ?_⟩; have n0_ := Aside0.mk (below_step (by repeat (first | (with_reducible first | exact HB.out | apply below_alloc | apply pw_below_drewN | apply below_drew1) | exact HB.out)) hb); clear HB; have HB := n0_; clear n0_; (try clear hb); (try clear hb2); (try clear hk); (try clear hi)) | ((with_reducible refine gate_dst (N := 1) rfl ?_); refine box_event ?hg (N := 1) ?hd (cs := #[.string (⟨#[]⟩ : ByteArray), .int .i64 0]) (t := 23) ?hr ?_; (case hd => rfl); (case hg => rfl); (case hr => first | (go_simp; done) | (go_simp; rfl)); intro gb161 hg w48 hbox hb; have n0_ := Aside0.mk (below_step (by repeat (first | (with_reducible first | exact HB.out | apply below_alloc | apply pw_below_drewN | apply below_drew1) | exact HB.out)) hb); have n1_ := Aside0.mk (hbox); have n2_ := Aside0.mk ((by rw [hg]; exact (below_size (by repeat (first | (with_reducible first | exact HB.out | apply below_alloc | apply pw_below_drewN | apply below_drew1) | exact HB.out))) : w.heap.size ≤ gb161)); have n3_ := Aside0.mk ((by rw [hg]; exact (below_size (by repeat (first | (with_reducible first | exact HB.out | apply below_alloc | apply pw_below_drewN | apply below_drew1) | exact HB.out))) : w.heap.size ≤ gb161)); clear HB; have HB := n0_; have BK161 := n1_; have GW161 := n2_; have GE161 := n3_; clear n0_ n1_ n2_ n3_; clear hb hbox hg; have hcz49_0 : w48.cell? ⟨gb161, 0, none⟩ = some (.string (⟨#[]⟩ : ByteArray)) := (blk_cell BK161.out 0).trans rfl; have hcz49_1 : w48.cell? ⟨gb161, 1, none⟩ = some (.int .i64 0) := (blk_cell BK161.out 1).trans rfl; have hfz49_0 := blk_frozen BK161.out 0; have hfz49_1 := blk_frozen BK161.out 1) | ((with_reducible refine gate_callee (f := 18) rfl ?_); refine goesL_ (some 13) rfl rfl Tryd.func18 (by kernel_rfl) rfl #[.agg #[.string (⟨#[57, 57, 53]⟩ : ByteArray), .int .i64 1], .int .i64 2] rfl (by (try simp only [List.map_toArray, List.map_cons, List.map_nil]); first | done | rfl | (simp only [List.length_drop, List.length_take]; rfl)) ?_; (with_reducible refine (bigdec_Round.calls k (⟨#[57, 57, 53]⟩ : ByteArray) 1 2 t162 t163 t164 _ A2.out).mono ?_); rintro e w50 ⟨rfl, hb⟩; refine ⟨_, rfl, ?_⟩; have n0_ := Aside0.mk (blk_below (g := gb161) (o := .cells #[.string t158, .int .i64 t159] 23 (0, 0)) (by (with_reducible repeat (first | refine blk_drewN ?_ _ | refine blk_drew ?_ | refine blk_alloc ?_ _)); refine blk_put (cs := #[.string t158, .int .i64 0]) ?_ 1 _ rfl; (with_reducible repeat (first | refine blk_drewN ?_ _ | refine blk_drew ?_ | refine blk_alloc ?_ _)); refine blk_put (cs := #[.string (⟨#[]⟩ : ByteArray), .int .i64 0]) ?_ 0 _ rfl; (with_reducible repeat (first | refine blk_drewN ?_ _ | refine blk_drew ?_ | refine blk_alloc ?_ _)); exact BK161.out) hb); have n1_ := Aside0.mk (below_step (by repeat (first | (with_reducible first | exact HB.out | apply below_alloc | apply pw_below_drewN | apply below_drew1 | refine below_set ?_ GE161.out) | exact HB.out)) hb); clear BK161; clear HB; have BK161 := n0_; have HB := n1_; clear n0_ n1_; (try clear hb); (try clear hb2); (try clear hk); (try clear hi)) | ((with_reducible refine gate_dst (N := 3) rfl ?_); refine box_event ?hg (N := 3) ?hd (cs := #[.string (⟨#[]⟩ : ByteArray), .int .i64 0]) (t := 23) ?hr ?_; (case hd => rfl); (case hg => rfl); (case hr => first | (go_simp; done) | (go_simp; rfl)); intro gb165 hg w51 hbox hb; have n0_ := Aside0.mk (blk_below (g := gb161) (o := .cells #[.string t158, .int .i64 t159] 23 (0, 0)) (by (with_reducible repeat (first | refine blk_drewN ?_ _ | refine blk_drew ?_ | refine blk_alloc ?_ _)); exact BK161.out) hb); have n1_ := Aside0.mk (below_step (by repeat (first | (with_reducible first | exact HB.out | apply below_alloc | apply pw_below_drewN | apply below_drew1 | refine below_set ?_ GE161.out) | exact HB.out)) hb); have n2_ := Aside0.mk (hbox); have n3_ := Aside0.mk ((by rw [hg]; exact (below_size (by repeat (first | (with_reducible first | exact HB.out | apply below_alloc | apply pw_below_drewN | apply below_drew1 | refine below_set ?_ GE161.out) | exact HB.out))) : w.heap.size ≤ gb165)); have n4_ := Aside0.mk ((by rw [hg]; exact (below_size (by repeat (first | (with_reducible first | exact HB.out | apply below_alloc | apply pw_below_drewN | apply below_drew1 | refine below_set ?_ GE161.out) | exact HB.out))) : w.heap.size ≤ gb165)); have n5_ := Aside0.mk ((by rw [hg]; exact Nat.ne_of_lt (blk_lt (g := gb161) (o := .cells #[.string t158, .int .i64 t159] 23 (0, 0)) (by (with_reducible repeat (first | refine blk_drewN ?_ _ | refine blk_drew ?_ | refine blk_alloc ?_ _)); exact BK161.out)) : gb161 ≠ gb165)); have n6_ := Aside0.mk ((by rw [hg]; exact Nat.ne_of_gt (blk_lt (g := gb161) (o := .cells #[.string t158, .int .i64 t159] 23 (0, 0)) (by (with_reducible repeat (first | refine blk_drewN ?_ _ | refine blk_drew ?_ | refine blk_alloc ?_ _)); exact BK161.out)) : gb165 ≠ gb161)); clear BK161; clear HB; have BK161 := n0_; have HB := n1_; have BK165 := n2_; have GW165 := n3_; have GE165 := n4_; have NB161_165 := n5_; have NB165_161 := n6_; clear n0_ n1_ n2_ n3_ n4_ n5_ n6_; clear hb hbox hg; have hnb52 := NB165_161.out; have hnc52 := NB161_165.out; have hcz53_0 : w51.cell? ⟨gb165, 0, none⟩ = some (.string (⟨#[]⟩ : ByteArray)) := (blk_cell BK165.out 0).trans rfl; have hcz53_1 : w51.cell? ⟨gb165, 1, none⟩ = some (.int .i64 0) := (blk_cell BK165.out 1).trans rfl; have hfz53_0 := blk_frozen BK165.out 0; have hfz53_1 := blk_frozen BK165.out 1) | ((with_reducible refine gate_callee (f := 13) rfl ?_); refine goesL_ (some 18) rfl rfl Tryd.func13 (by kernel_rfl) rfl #[.agg #[.string (⟨#[49, 120]⟩ : ByteArray), .int .i64 0]] rfl (by (try simp only [List.map_toArray, List.map_cons, List.map_nil]); first | done | rfl | (simp only [List.length_drop, List.length_take]; rfl)) ?_; (with_reducible refine (bigdec_Norm.calls k (⟨#[49, 120]⟩ : ByteArray) 0 t166 t167 t168 _ A3.out).mono ?_); rintro e w54 ⟨rfl, hb⟩; refine ⟨_, rfl, ?_⟩; have n0_ := Aside0.mk (blk_below (g := gb161) (o := .cells #[.string t158, .int .i64 t159] 23 (0, 0)) (by (with_reducible repeat (first | refine blk_drewN ?_ _ | refine blk_drew ?_ | refine blk_alloc ?_ _)); refine blk_far ?_ NB161_165.out _; (with_reducible repeat (first | refine blk_drewN ?_ _ | refine blk_drew ?_ | refine blk_alloc ?_ _)); refine blk_far ?_ NB161_165.out _; (with_reducible repeat (first | refine blk_drewN ?_ _ | refine blk_drew ?_ | refine blk_alloc ?_ _)); exact BK161.out) hb); have n1_ := Aside0.mk (blk_below (g := gb165) (o := .cells #[.string t162, .int .i64 t163] 23 (0, 0)) (by (with_reducible repeat (first | refine blk_drewN ?_ _ | refine blk_drew ?_ | refine blk_alloc ?_ _)); refine blk_put (cs := #[.string t162, .int .i64 0]) ?_ 1 _ rfl; (with_reducible repeat (first | refine blk_drewN ?_ _ | refine blk_drew ?_ | refine blk_alloc ?_ _)); refine blk_put (cs := #[.string (⟨#[]⟩ : ByteArray), .int .i64 0]) ?_ 0 _ rfl; (with_reducible repeat (first | refine blk_drewN ?_ _ | refine blk_drew ?_ | refine blk_alloc ?_ _)); exact BK165.out) hb); have n2_ := Aside0.mk (below_step (by repeat (first | (with_reducible first | exact HB.out | apply below_alloc | apply pw_below_drewN | apply below_drew1 | refine below_set ?_ GE161.out | refine below_set ?_ GE165.out) | exact HB.out)) hb); clear BK161; clear BK165; clear HB; have BK161 := n0_; have BK165 := n1_; have HB := n2_; clear n0_ n1_ n2_; (try clear hb); (try clear hb2); (try clear hk); (try clear hi)) | ((with_reducible refine gate_dst (N := 5) rfl ?_); refine box_event ?hg (N := 5) ?hd (cs := #[.string (⟨#[]⟩ : ByteArray), .int .i64 0]) (t := 23) ?hr ?_; (case hd => rfl); (case hg => rfl); (case hr => first | (go_simp; done) | (go_simp; rfl)); intro gb169 hg w55 hbox hb; have n0_ := Aside0.mk (blk_below (g := gb161) (o := .cells #[.string t158, .int .i64 t159] 23 (0, 0)) (by (with_reducible repeat (first | refine blk_drewN ?_ _ | refine blk_drew ?_ | refine blk_alloc ?_ _)); exact BK161.out) hb); have n1_ := Aside0.mk (blk_below (g := gb165) (o := .cells #[.string t162, .int .i64 t163] 23 (0, 0)) (by (with_reducible repeat (first | refine blk_drewN ?_ _ | refine blk_drew ?_ | refine blk_alloc ?_ _)); exact BK165.out) hb); have n2_ := Aside0.mk (below_step (by repeat (first | (with_reducible first | exact HB.out | apply below_alloc | apply pw_below_drewN | apply below_drew1 | refine below_set ?_ GE161.out | refine below_set ?_ GE165.out) | exact HB.out)) hb); have n3_ := Aside0.mk (hbox); have n4_ := Aside0.mk ((by rw [hg]; exact (below_size (by repeat (first | (with_reducible first | exact HB.out | apply below_alloc | apply pw_below_drewN | apply below_drew1 | refine below_set ?_ GE161.out | refine below_set ?_ GE165.out) | exact HB.out))) : w.heap.size ≤ gb169)); have n5_ := Aside0.mk ((by rw [hg]; exact (below_size (by repeat (first | (with_reducible first | exact HB.out | apply below_alloc | apply pw_below_drewN | apply below_drew1 | refine below_set ?_ GE161.out | refine below_set ?_ GE165.out) | exact HB.out))) : w.heap.size ≤ gb169)); have n6_ := Aside0.mk ((by rw [hg]; exact Nat.ne_of_lt (blk_lt (g := gb161) (o := .cells #[.string t158, .int .i64 t159] 23 (0, 0)) (by (with_reducible repeat (first | refine blk_drewN ?_ _ | refine blk_drew ?_ | refine blk_alloc ?_ _)); exact BK161.out)) : gb161 ≠ gb169)); have n7_ := Aside0.mk ((by rw [hg]; exact Nat.ne_of_gt (blk_lt (g := gb161) (o := .cells #[.string t158, .int .i64 t159] 23 (0, 0)) (by (with_reducible repeat (first | refine blk_drewN ?_ _ | refine blk_drew ?_ | refine blk_alloc ?_ _)); exact BK161.out)) : gb169 ≠ gb161)); have n8_ := Aside0.mk ((by rw [hg]; exact Nat.ne_of_lt (blk_lt (g := gb165) (o := .cells #[.string t162, .int .i64 t163] 23 (0, 0)) (by (with_reducible repeat (first | refine blk_drewN ?_ _ | refine blk_drew ?_ | refine blk_alloc ?_ _)); exact BK165.out)) : gb165 ≠ gb169)); have n9_ := Aside0.mk ((by rw [hg]; exact Nat.ne_of_gt (blk_lt (g := gb165) (o := .cells #[.string t162, .int .i64 t163] 23 (0, 0)) (by (with_reducible repeat (first | refine blk_drewN ?_ _ | refine blk_drew ?_ | refine blk_alloc ?_ _)); exact BK165.out)) : gb169 ≠ gb165)); clear BK161; clear BK165; clear HB; have BK161 := n0_; have BK165 := n1_; have HB := n2_; have BK169 := n3_; have GW169 := n4_; have GE169 := n5_; have NB161_169 := n6_; have NB169_161 := n7_; have NB165_169 := n8_; have NB169_165 := n9_; clear n0_ n1_ n2_ n3_ n4_ n5_ n6_ n7_ n8_ n9_; clear hb hbox hg; have hnb56 := NB169_161.out; have hnc56 := NB161_169.out; have hnb57 := NB169_165.out; have hnc57 := NB165_169.out; have hcz58_0 : w55.cell? ⟨gb169, 0, none⟩ = some (.string (⟨#[]⟩ : ByteArray)) := (blk_cell BK169.out 0).trans rfl; have hcz58_1 : w55.cell? ⟨gb169, 1, none⟩ = some (.int .i64 0) := (blk_cell BK169.out 1).trans rfl; have hfz58_0 := blk_frozen BK169.out 0; have hfz58_1 := blk_frozen BK169.out 1))
   go_ret
   exact ⟨by first | rfl | (simp [errW_none, errW_some] <;> rfl) | (simp [*, errW_none, errW_some] <;> rfl), by repeat (first | (with_reducible first | exact HB.out | apply below_alloc | apply pw_below_drewN | apply below_drew1 | refine below_set ?_ GE161.out | refine below_set ?_ GE165.out | refine below_set ?_ GE169.out) | exact HB.out)⟩
 ·rw [if_neg c4] at H
  have c4b0 : (t160 == 0) = false := beq_eq_false_iff_ne.mpr c4
  have c4b1 : (t160 != 0) = true := bne_iff_ne.mpr c4
  obtain rfl := Option.some.inj H
  go_enter Tryd.func15, Tryd.ntmps15
  go_wp2_with (first | ((with_reducible refine gate_callee (f := 16) rfl ?_); refine goesL_ (some 8) rfl rfl Tryd.func16 (by kernel_rfl) rfl #[.int .u64 1, .int .i64 (-1)] rfl (by (try simp only [List.map_toArray, List.map_cons, List.map_nil]); first | done | rfl | (simp only [List.length_drop, List.length_take]; rfl)) ?_; (with_reducible refine (bigdec_Exact.calls k 1 (-1) t158 t159 t160 _ A1.out).mono ?_); rintro e w59 ⟨rfl, hb⟩; refine ⟨_, rfl, ?_⟩; have n0_ := Aside0.mk (below_step (by repeat (first | (with_reducible first | exact HB.out | apply below_alloc | apply pw_below_drewN | apply below_drew1) | exact HB.out)) hb); clear HB; have HB := n0_; clear n0_; (try clear hb); (try clear hb2); (try clear hk); (try clear hi)) | ((with_reducible refine gate_dst (N := 1) rfl ?_); refine box_event ?hg (N := 1) ?hd (cs := #[.string (⟨#[]⟩ : ByteArray), .int .i64 0]) (t := 23) ?hr ?_; (case hd => rfl); (case hg => rfl); (case hr => first | (go_simp; done) | (go_simp; rfl)); intro gb161 hg w60 hbox hb; have n0_ := Aside0.mk (below_step (by repeat (first | (with_reducible first | exact HB.out | apply below_alloc | apply pw_below_drewN | apply below_drew1) | exact HB.out)) hb); have n1_ := Aside0.mk (hbox); have n2_ := Aside0.mk ((by rw [hg]; exact (below_size (by repeat (first | (with_reducible first | exact HB.out | apply below_alloc | apply pw_below_drewN | apply below_drew1) | exact HB.out))) : w.heap.size ≤ gb161)); have n3_ := Aside0.mk ((by rw [hg]; exact (below_size (by repeat (first | (with_reducible first | exact HB.out | apply below_alloc | apply pw_below_drewN | apply below_drew1) | exact HB.out))) : w.heap.size ≤ gb161)); clear HB; have HB := n0_; have BK161 := n1_; have GW161 := n2_; have GE161 := n3_; clear n0_ n1_ n2_ n3_; clear hb hbox hg; have hcz61_0 : w60.cell? ⟨gb161, 0, none⟩ = some (.string (⟨#[]⟩ : ByteArray)) := (blk_cell BK161.out 0).trans rfl; have hcz61_1 : w60.cell? ⟨gb161, 1, none⟩ = some (.int .i64 0) := (blk_cell BK161.out 1).trans rfl; have hfz61_0 := blk_frozen BK161.out 0; have hfz61_1 := blk_frozen BK161.out 1) | ((with_reducible refine gate_callee (f := 18) rfl ?_); refine goesL_ (some 13) rfl rfl Tryd.func18 (by kernel_rfl) rfl #[.agg #[.string (⟨#[57, 57, 53]⟩ : ByteArray), .int .i64 1], .int .i64 2] rfl (by (try simp only [List.map_toArray, List.map_cons, List.map_nil]); first | done | rfl | (simp only [List.length_drop, List.length_take]; rfl)) ?_; (with_reducible refine (bigdec_Round.calls k (⟨#[57, 57, 53]⟩ : ByteArray) 1 2 t162 t163 t164 _ A2.out).mono ?_); rintro e w62 ⟨rfl, hb⟩; refine ⟨_, rfl, ?_⟩; have n0_ := Aside0.mk (blk_below (g := gb161) (o := .cells #[.string t158, .int .i64 t159] 23 (0, 0)) (by (with_reducible repeat (first | refine blk_drewN ?_ _ | refine blk_drew ?_ | refine blk_alloc ?_ _)); refine blk_put (cs := #[.string t158, .int .i64 0]) ?_ 1 _ rfl; (with_reducible repeat (first | refine blk_drewN ?_ _ | refine blk_drew ?_ | refine blk_alloc ?_ _)); refine blk_put (cs := #[.string (⟨#[]⟩ : ByteArray), .int .i64 0]) ?_ 0 _ rfl; (with_reducible repeat (first | refine blk_drewN ?_ _ | refine blk_drew ?_ | refine blk_alloc ?_ _)); exact BK161.out) hb); have n1_ := Aside0.mk (below_step (by repeat (first | (with_reducible first | exact HB.out | apply below_alloc | apply pw_below_drewN | apply below_drew1 | refine below_set ?_ GE161.out) | exact HB.out)) hb); clear BK161; clear HB; have BK161 := n0_; have HB := n1_; clear n0_ n1_; (try clear hb); (try clear hb2); (try clear hk); (try clear hi)) | ((with_reducible refine gate_dst (N := 3) rfl ?_); refine box_event ?hg (N := 3) ?hd (cs := #[.string (⟨#[]⟩ : ByteArray), .int .i64 0]) (t := 23) ?hr ?_; (case hd => rfl); (case hg => rfl); (case hr => first | (go_simp; done) | (go_simp; rfl)); intro gb165 hg w63 hbox hb; have n0_ := Aside0.mk (blk_below (g := gb161) (o := .cells #[.string t158, .int .i64 t159] 23 (0, 0)) (by (with_reducible repeat (first | refine blk_drewN ?_ _ | refine blk_drew ?_ | refine blk_alloc ?_ _)); exact BK161.out) hb); have n1_ := Aside0.mk (below_step (by repeat (first | (with_reducible first | exact HB.out | apply below_alloc | apply pw_below_drewN | apply below_drew1 | refine below_set ?_ GE161.out) | exact HB.out)) hb); have n2_ := Aside0.mk (hbox); have n3_ := Aside0.mk ((by rw [hg]; exact (below_size (by repeat (first | (with_reducible first | exact HB.out | apply below_alloc | apply pw_below_drewN | apply below_drew1 | refine below_set ?_ GE161.out) | exact HB.out))) : w.heap.size ≤ gb165)); have n4_ := Aside0.mk ((by rw [hg]; exact (below_size (by repeat (first | (with_reducible first | exact HB.out | apply below_alloc | apply pw_below_drewN | apply below_drew1 | refine below_set ?_ GE161.out) | exact HB.out))) : w.heap.size ≤ gb165)); have n5_ := Aside0.mk ((by rw [hg]; exact Nat.ne_of_lt (blk_lt (g := gb161) (o := .cells #[.string t158, .int .i64 t159] 23 (0, 0)) (by (with_reducible repeat (first | refine blk_drewN ?_ _ | refine blk_drew ?_ | refine blk_alloc ?_ _)); exact BK161.out)) : gb161 ≠ gb165)); have n6_ := Aside0.mk ((by rw [hg]; exact Nat.ne_of_gt (blk_lt (g := gb161) (o := .cells #[.string t158, .int .i64 t159] 23 (0, 0)) (by (with_reducible repeat (first | refine blk_drewN ?_ _ | refine blk_drew ?_ | refine blk_alloc ?_ _)); exact BK161.out)) : gb165 ≠ gb161)); clear BK161; clear HB; have BK161 := n0_; have HB := n1_; have BK165 := n2_; have GW165 := n3_; have GE165 := n4_; have NB161_165 := n5_; have NB165_161 := n6_; clear n0_ n1_ n2_ n3_ n4_ n5_ n6_; clear hb hbox hg; have hnb64 := NB165_161.out; have hnc64 := NB161_165.out; have hcz65_0 : w63.cell? ⟨gb165, 0, none⟩ = some (.string (⟨#[]⟩ : ByteArray)) := (blk_cell BK165.out 0).trans rfl; have hcz65_1 : w63.cell? ⟨gb165, 1, none⟩ = some (.int .i64 0) := (blk_cell BK165.out 1).trans rfl; have hfz65_0 := blk_frozen BK165.out 0; have hfz65_1 := blk_frozen BK165.out 1) | ((with_reducible refine gate_callee (f := 13) rfl ?_); refine goesL_ (some 18) rfl rfl Tryd.func13 (by kernel_rfl) rfl #[.agg #[.string (⟨#[49, 120]⟩ : ByteArray), .int .i64 0]] rfl (by (try simp only [List.map_toArray, List.map_cons, List.map_nil]); first | done | rfl | (simp only [List.length_drop, List.length_take]; rfl)) ?_; (with_reducible refine (bigdec_Norm.calls k (⟨#[49, 120]⟩ : ByteArray) 0 t166 t167 t168 _ A3.out).mono ?_); rintro e w66 ⟨rfl, hb⟩; refine ⟨_, rfl, ?_⟩; have n0_ := Aside0.mk (blk_below (g := gb161) (o := .cells #[.string t158, .int .i64 t159] 23 (0, 0)) (by (with_reducible repeat (first | refine blk_drewN ?_ _ | refine blk_drew ?_ | refine blk_alloc ?_ _)); refine blk_far ?_ NB161_165.out _; (with_reducible repeat (first | refine blk_drewN ?_ _ | refine blk_drew ?_ | refine blk_alloc ?_ _)); refine blk_far ?_ NB161_165.out _; (with_reducible repeat (first | refine blk_drewN ?_ _ | refine blk_drew ?_ | refine blk_alloc ?_ _)); exact BK161.out) hb); have n1_ := Aside0.mk (blk_below (g := gb165) (o := .cells #[.string t162, .int .i64 t163] 23 (0, 0)) (by (with_reducible repeat (first | refine blk_drewN ?_ _ | refine blk_drew ?_ | refine blk_alloc ?_ _)); refine blk_put (cs := #[.string t162, .int .i64 0]) ?_ 1 _ rfl; (with_reducible repeat (first | refine blk_drewN ?_ _ | refine blk_drew ?_ | refine blk_alloc ?_ _)); refine blk_put (cs := #[.string (⟨#[]⟩ : ByteArray), .int .i64 0]) ?_ 0 _ rfl; (with_reducible repeat (first | refine blk_drewN ?_ _ | refine blk_drew ?_ | refine blk_alloc ?_ _)); exact BK165.out) hb); have n2_ := Aside0.mk (below_step (by repeat (first | (with_reducible first | exact HB.out | apply below_alloc | apply pw_below_drewN | apply below_drew1 | refine below_set ?_ GE161.out | refine below_set ?_ GE165.out) | exact HB.out)) hb); clear BK161; clear BK165; clear HB; have BK161 := n0_; have BK165 := n1_; have HB := n2_; clear n0_ n1_ n2_; (try clear hb); (try clear hb2); (try clear hk); (try clear hi)) | ((with_reducible refine gate_dst (N := 5) rfl ?_); refine box_event ?hg (N := 5) ?hd (cs := #[.string (⟨#[]⟩ : ByteArray), .int .i64 0]) (t := 23) ?hr ?_; (case hd => rfl); (case hg => rfl); (case hr => first | (go_simp; done) | (go_simp; rfl)); intro gb169 hg w67 hbox hb; have n0_ := Aside0.mk (blk_below (g := gb161) (o := .cells #[.string t158, .int .i64 t159] 23 (0, 0)) (by (with_reducible repeat (first | refine blk_drewN ?_ _ | refine blk_drew ?_ | refine blk_alloc ?_ _)); exact BK161.out) hb); have n1_ := Aside0.mk (blk_below (g := gb165) (o := .cells #[.string t162, .int .i64 t163] 23 (0, 0)) (by (with_reducible repeat (first | refine blk_drewN ?_ _ | refine blk_drew ?_ | refine blk_alloc ?_ _)); exact BK165.out) hb); have n2_ := Aside0.mk (below_step (by repeat (first | (with_reducible first | exact HB.out | apply below_alloc | apply pw_below_drewN | apply below_drew1 | refine below_set ?_ GE161.out | refine below_set ?_ GE165.out) | exact HB.out)) hb); have n3_ := Aside0.mk (hbox); have n4_ := Aside0.mk ((by rw [hg]; exact (below_size (by repeat (first | (with_reducible first | exact HB.out | apply below_alloc | apply pw_below_drewN | apply below_drew1 | refine below_set ?_ GE161.out | refine below_set ?_ GE165.out) | exact HB.out))) : w.heap.size ≤ gb169)); have n5_ := Aside0.mk ((by rw [hg]; exact (below_size (by repeat (first | (with_reducible first | exact HB.out | apply below_alloc | apply pw_below_drewN | apply below_drew1 | refine below_set ?_ GE161.out | refine below_set ?_ GE165.out) | exact HB.out))) : w.heap.size ≤ gb169)); have n6_ := Aside0.mk ((by rw [hg]; exact Nat.ne_of_lt (blk_lt (g := gb161) (o := .cells #[.string t158, .int .i64 t159] 23 (0, 0)) (by (with_reducible repeat (first | refine blk_drewN ?_ _ | refine blk_drew ?_ | refine blk_alloc ?_ _)); exact BK161.out)) : gb161 ≠ gb169)); have n7_ := Aside0.mk ((by rw [hg]; exact Nat.ne_of_gt (blk_lt (g := gb161) (o := .cells #[.string t158, .int .i64 t159] 23 (0, 0)) (by (with_reducible repeat (first | refine blk_drewN ?_ _ | refine blk_drew ?_ | refine blk_alloc ?_ _)); exact BK161.out)) : gb169 ≠ gb161)); have n8_ := Aside0.mk ((by rw [hg]; exact Nat.ne_of_lt (blk_lt (g := gb165) (o := .cells #[.string t162, .int .i64 t163] 23 (0, 0)) (by (with_reducible repeat (first | refine blk_drewN ?_ _ | refine blk_drew ?_ | refine blk_alloc ?_ _)); exact BK165.out)) : gb165 ≠ gb169)); have n9_ := Aside0.mk ((by rw [hg]; exact Nat.ne_of_gt (blk_lt (g := gb165) (o := .cells #[.string t162, .int .i64 t163] 23 (0, 0)) (by (with_reducible repeat (first | refine blk_drewN ?_ _ | refine blk_drew ?_ | refine blk_alloc ?_ _)); exact BK165.out)) : gb169 ≠ gb165)); clear BK161; clear BK165; clear HB; have BK161 := n0_; have BK165 := n1_; have HB := n2_; have BK169 := n3_; have GW169 := n4_; have GE169 := n5_; have NB161_169 := n6_; have NB169_161 := n7_; have NB165_169 := n8_; have NB169_165 := n9_; clear n0_ n1_ n2_ n3_ n4_ n5_ n6_ n7_ n8_ n9_; clear hb hbox hg; have hnb68 := NB169_161.out; have hnc68 := NB161_169.out; have hnb69 := NB169_165.out; have hnc69 := NB165_169.out; have hcz70_0 : w67.cell? ⟨gb169, 0, none⟩ = some (.string (⟨#[]⟩ : ByteArray)) := (blk_cell BK169.out 0).trans rfl; have hcz70_1 : w67.cell? ⟨gb169, 1, none⟩ = some (.int .i64 0) := (blk_cell BK169.out 1).trans rfl; have hfz70_0 := blk_frozen BK169.out 0; have hfz70_1 := blk_frozen BK169.out 1))
  go_ret
  exact ⟨by first | rfl | (simp [errW_none, errW_some] <;> rfl) | (simp [*, errW_none, errW_some] <;> rfl), by repeat (first | (with_reducible first | exact HB.out | apply below_alloc | apply pw_below_drewN | apply below_drew1 | refine below_set ?_ GE161.out | refine below_set ?_ GE165.out | refine below_set ?_ GE169.out) | exact HB.out)⟩
end Go.Proofs.YtobidkjmgkmaoaaDoor.Fn
end
section
namespace Go.Proofs.YtobidkjmgkmaoaaDoor.Pure
open Go.RowKit Go.Proofs.YtobidkjmgkmaoaaDoorW.PrintWords Go.Proofs.YtobidkjmgkmaoaaDoor.Fn
theorem lives4_at : platenlaw04_lives.f 60 = some true := by decide +kernel
theorem lives4 : Ev (fun k => platenlaw04_lives.f k) true := Ev.of platenlaw04_lives.mono lives4_at
end Go.Proofs.YtobidkjmgkmaoaaDoor.Pure
end
section
namespace Go.Proofs.YtobidkjmgkmaoaaDoor.Fn
open Go.RowKit Go.Proofs.YtobidkjmgkmaoaaDoorW.PrintWords Go.Proofs.YtobidkjmgkmaoaaDoorW.PrintLast Go.Proofs.YtobidkjmgkmaoaaDoorW.PrintMore
set_option linter.unusedVariables false
set_option linter.unusedSimpArgs false
attribute [local go_sem high] eqA23
def platenlaw04_BigdecRounds.f (k : Nat) (a0_0 : ByteArray) (a0_1 : Int) (a1 : Int) : Option (Bool) := (bigdec_Round.f k a0_0 a0_1 a1).bind fun bt264 => ((platenref04_Round.f k a0_0 a0_1 a1).bind fun bt268 => (if (bt264.1.toList == bt268.1.toList && (bt264.2.1 == bt268.2.1)) = true then (if bt264.2.2 = bt268.2.2 then ((platenlaw04_lives.f k).bind fun t272 => (some t272)) else (some false)) else (some false)))
set_option maxHeartbeats 8000000 in
set_option maxRecDepth 100000 in
theorem platenlaw04_BigdecRounds.calls (k : Nat) (a0_0 : ByteArray) (a0_1 : Int) (a1 : Int) (r : Bool) (w : World) (h : platenlaw04_BigdecRounds.f k a0_0 a0_1 a1 = some r) :
  Calls Tryd.prog 5 #[.agg #[.string a0_0, .int .i64 a0_1], .int .i64 a1] w fun e w' => e = .returned (.bool r) ∧ Below w.heap.size w w' := by
 have hu23 := Tryd.underlying23
 have HB := Aside0.mk (Below.refl w.heap.size w)
 have H : ((bigdec_Round.f k a0_0 a0_1 a1).bind fun bt264 => ((platenref04_Round.f k a0_0 a0_1 a1).bind fun bt268 => (if (bt264.1.toList == bt268.1.toList && (bt264.2.1 == bt268.2.1)) = true then (if bt264.2.2 = bt268.2.2 then ((platenlaw04_lives.f k).bind fun t272 => (some t272)) else (some false)) else (some false)))) = some r := h
 clear h
 replace H := Option.bind_eq_some_iff.mp H
 obtain ⟨⟨t264, t265, t266⟩, A30, H⟩ := H
 replace H : ((platenref04_Round.f k a0_0 a0_1 a1).bind fun bt268 => (if (t264.toList == bt268.1.toList && (t265 == bt268.2.1)) = true then (if t266 = bt268.2.2 then ((platenlaw04_lives.f k).bind fun t272 => (some t272)) else (some false)) else (some false))) = some r := H
 have A3 := Aside0.mk A30
 clear A30
 replace H := Option.bind_eq_some_iff.mp H
 obtain ⟨⟨t268, t269, t270⟩, A40, H⟩ := H
 replace H : (if (t264.toList == t268.toList && (t265 == t269)) = true then (if t266 = t270 then ((platenlaw04_lives.f k).bind fun t272 => (some t272)) else (some false)) else (some false)) = some r := H
 have A4 := Aside0.mk A40
 clear A40
 by_cases c5 : (t264.toList == t268.toList && (t265 == t269)) = true
 ·rw [if_pos c5] at H
  have c5b0 : (t264.toList == t268.toList && (t265 == t269)) = true := c5
  (try (have c5b1 : decide (t264.toList = t268.toList && (t265 == t269)) = true := by simpa using c5))
  (try (have c5b2 : (t264.toList == t268.toList && (t265 == t269)) = true := by simpa using c5))
  clear c5
  by_cases c6 : t266 = t270
  ·rw [if_pos c6] at H
   have c6b0 : (t266 == t270) = true := beq_iff_eq.mpr c6
   have c6b1 : (t266 != t270) = false := bne_eq_false_iff_eq.mpr c6
   clear c6
   replace H := Option.bind_eq_some_iff.mp H
   obtain ⟨t272, A70, H⟩ := H
   replace H : (some t272) = some r := H
   have A7 := Aside0.mk A70
   clear A70
   obtain rfl := Option.some.inj H
   go_enter Tryd.func5, Tryd.ntmps5
   go_wp2_with (first | ((with_reducible refine gate_dst (N := 2) rfl ?_); refine box_event ?hg (N := 2) ?hd (cs := #[.string a0_0, .int .i64 a0_1]) (t := 23) ?hr ?_; (case hd => rfl); (case hg => rfl); (case hr => first | (go_simp; done) | (go_simp; rfl)); intro gb263 hg w8 hbox hb; have n0_ := Aside0.mk (below_step (by repeat (first | (with_reducible first | exact HB.out | apply below_alloc | apply pw_below_drewN | apply below_drew1) | exact HB.out)) hb); have n1_ := Aside0.mk (hbox); have n2_ := Aside0.mk ((by rw [hg]; exact (below_size (by repeat (first | (with_reducible first | exact HB.out | apply below_alloc | apply pw_below_drewN | apply below_drew1) | exact HB.out))) : w.heap.size ≤ gb263)); have n3_ := Aside0.mk ((by rw [hg]; exact (below_size (by repeat (first | (with_reducible first | exact HB.out | apply below_alloc | apply pw_below_drewN | apply below_drew1) | exact HB.out))) : w.heap.size ≤ gb263)); clear HB; have HB := n0_; have BK263 := n1_; have GW263 := n2_; have GE263 := n3_; clear n0_ n1_ n2_ n3_; clear hb hbox hg; have hcz9_0 : w8.cell? ⟨gb263, 0, none⟩ = some (.string a0_0) := (blk_cell BK263.out 0).trans rfl; have hcz9_1 : w8.cell? ⟨gb263, 1, none⟩ = some (.int .i64 a0_1) := (blk_cell BK263.out 1).trans rfl; have hfz9_0 := blk_frozen BK263.out 0; have hfz9_1 := blk_frozen BK263.out 1) | ((with_reducible refine gate_callee (f := 18) rfl ?_); refine goesL_ (some 12) rfl rfl Tryd.func18 (by kernel_rfl) rfl #[.agg #[.string a0_0, .int .i64 a0_1], .int .i64 a1] rfl (by (try simp only [List.map_toArray, List.map_cons, List.map_nil]); first | done | rfl | (simp only [List.length_drop, List.length_take]; rfl)) ?_; (with_reducible refine (bigdec_Round.calls k a0_0 a0_1 a1 t264 t265 t266 _ A3.out).mono ?_); rintro e w10 ⟨rfl, hb⟩; refine ⟨_, rfl, ?_⟩; have n0_ := Aside0.mk (blk_below (g := gb263) (o := .cells #[.string a0_0, .int .i64 a0_1] 23 (0, 0)) (by (with_reducible repeat (first | refine blk_drewN ?_ _ | refine blk_drew ?_ | refine blk_alloc ?_ _)); exact BK263.out) hb); have n1_ := Aside0.mk (below_step (by repeat (first | (with_reducible first | exact HB.out | apply below_alloc | apply pw_below_drewN | apply below_drew1 | refine below_set ?_ GE263.out) | exact HB.out)) hb); clear BK263; clear HB; have BK263 := n0_; have HB := n1_; clear n0_ n1_; (try clear hb); (try clear hb2); (try clear hk); (try clear hi)) | ((with_reducible refine gate_dst (N := 5) rfl ?_); refine box_event ?hg (N := 5) ?hd (cs := #[.string (⟨#[]⟩ : ByteArray), .int .i64 0]) (t := 23) ?hr ?_; (case hd => rfl); (case hg => rfl); (case hr => first | (go_simp; done) | (go_simp; rfl)); intro gb267 hg w11 hbox hb; have n0_ := Aside0.mk (blk_below (g := gb263) (o := .cells #[.string a0_0, .int .i64 a0_1] 23 (0, 0)) (by (with_reducible repeat (first | refine blk_drewN ?_ _ | refine blk_drew ?_ | refine blk_alloc ?_ _)); exact BK263.out) hb); have n1_ := Aside0.mk (below_step (by repeat (first | (with_reducible first | exact HB.out | apply below_alloc | apply pw_below_drewN | apply below_drew1 | refine below_set ?_ GE263.out) | exact HB.out)) hb); have n2_ := Aside0.mk (hbox); have n3_ := Aside0.mk ((by rw [hg]; exact (below_size (by repeat (first | (with_reducible first | exact HB.out | apply below_alloc | apply pw_below_drewN | apply below_drew1 | refine below_set ?_ GE263.out) | exact HB.out))) : w.heap.size ≤ gb267)); have n4_ := Aside0.mk ((by rw [hg]; exact (below_size (by repeat (first | (with_reducible first | exact HB.out | apply below_alloc | apply pw_below_drewN | apply below_drew1 | refine below_set ?_ GE263.out) | exact HB.out))) : w.heap.size ≤ gb267)); have n5_ := Aside0.mk ((by rw [hg]; exact Nat.ne_of_lt (blk_lt (g := gb263) (o := .cells #[.string a0_0, .int .i64 a0_1] 23 (0, 0)) (by (with_reducible repeat (first | refine blk_drewN ?_ _ | refine blk_drew ?_ | refine blk_alloc ?_ _)); exact BK263.out)) : gb263 ≠ gb267)); have n6_ := Aside0.mk ((by rw [hg]; exact Nat.ne_of_gt (blk_lt (g := gb263) (o := .cells #[.string a0_0, .int .i64 a0_1] 23 (0, 0)) (by (with_reducible repeat (first | refine blk_drewN ?_ _ | refine blk_drew ?_ | refine blk_alloc ?_ _)); exact BK263.out)) : gb267 ≠ gb263)); clear BK263; clear HB; have BK263 := n0_; have HB := n1_; have BK267 := n2_; have GW267 := n3_; have GE267 := n4_; have NB263_267 := n5_; have NB267_263 := n6_; clear n0_ n1_ n2_ n3_ n4_ n5_ n6_; clear hb hbox hg; have hnb12 := NB267_263.out; have hnc12 := NB263_267.out; have hcz13_0 : w11.cell? ⟨gb267, 0, none⟩ = some (.string (⟨#[]⟩ : ByteArray)) := (blk_cell BK267.out 0).trans rfl; have hcz13_1 : w11.cell? ⟨gb267, 1, none⟩ = some (.int .i64 0) := (blk_cell BK267.out 1).trans rfl; have hfz13_0 := blk_frozen BK267.out 0; have hfz13_1 := blk_frozen BK267.out 1; have hcz14_0 : w11.cell? ⟨gb263, 0, none⟩ = some (.string a0_0) := (blk_cell BK263.out 0).trans rfl; have hcz14_1 : w11.cell? ⟨gb263, 1, none⟩ = some (.int .i64 a0_1) := (blk_cell BK263.out 1).trans rfl; have hfz14_0 := blk_frozen BK263.out 0; have hfz14_1 := blk_frozen BK263.out 1) | ((with_reducible refine gate_callee (f := 19) rfl ?_); refine goesL_ (some 18) rfl rfl Tryd.func19 (by kernel_rfl) rfl #[.agg #[.string a0_0, .int .i64 a0_1], .int .i64 a1] rfl (by (try simp only [List.map_toArray, List.map_cons, List.map_nil]); first | done | rfl | (simp only [List.length_drop, List.length_take]; rfl)) ?_; (with_reducible refine (platenref04_Round.calls k a0_0 a0_1 a1 t268 t269 t270 _ A4.out).mono ?_); rintro e w15 ⟨rfl, hb⟩; refine ⟨_, rfl, ?_⟩; have n0_ := Aside0.mk (blk_below (g := gb263) (o := .cells #[.string a0_0, .int .i64 a0_1] 23 (0, 0)) (by (with_reducible repeat (first | refine blk_drewN ?_ _ | refine blk_drew ?_ | refine blk_alloc ?_ _)); refine blk_far ?_ NB263_267.out _; (with_reducible repeat (first | refine blk_drewN ?_ _ | refine blk_drew ?_ | refine blk_alloc ?_ _)); refine blk_far ?_ NB263_267.out _; (with_reducible repeat (first | refine blk_drewN ?_ _ | refine blk_drew ?_ | refine blk_alloc ?_ _)); exact BK263.out) hb); have n1_ := Aside0.mk (blk_below (g := gb267) (o := .cells #[.string t264, .int .i64 t265] 23 (0, 0)) (by (with_reducible repeat (first | refine blk_drewN ?_ _ | refine blk_drew ?_ | refine blk_alloc ?_ _)); refine blk_put (cs := #[.string t264, .int .i64 0]) ?_ 1 _ rfl; (with_reducible repeat (first | refine blk_drewN ?_ _ | refine blk_drew ?_ | refine blk_alloc ?_ _)); refine blk_put (cs := #[.string (⟨#[]⟩ : ByteArray), .int .i64 0]) ?_ 0 _ rfl; (with_reducible repeat (first | refine blk_drewN ?_ _ | refine blk_drew ?_ | refine blk_alloc ?_ _)); exact BK267.out) hb); have n2_ := Aside0.mk (below_step (by repeat (first | (with_reducible first | exact HB.out | apply below_alloc | apply pw_below_drewN | apply below_drew1 | refine below_set ?_ GE263.out | refine below_set ?_ GE267.out) | exact HB.out)) hb); clear BK263; clear BK267; clear HB; have BK263 := n0_; have BK267 := n1_; have HB := n2_; clear n0_ n1_ n2_; (try clear hb); (try clear hb2); (try clear hk); (try clear hi)) | ((with_reducible refine gate_dst (N := 7) rfl ?_); refine box_event ?hg (N := 7) ?hd (cs := #[.string (⟨#[]⟩ : ByteArray), .int .i64 0]) (t := 23) ?hr ?_; (case hd => rfl); (case hg => rfl); (case hr => first | (go_simp; done) | (go_simp; rfl)); intro gb271 hg w16 hbox hb; have n0_ := Aside0.mk (blk_below (g := gb263) (o := .cells #[.string a0_0, .int .i64 a0_1] 23 (0, 0)) (by (with_reducible repeat (first | refine blk_drewN ?_ _ | refine blk_drew ?_ | refine blk_alloc ?_ _)); exact BK263.out) hb); have n1_ := Aside0.mk (blk_below (g := gb267) (o := .cells #[.string t264, .int .i64 t265] 23 (0, 0)) (by (with_reducible repeat (first | refine blk_drewN ?_ _ | refine blk_drew ?_ | refine blk_alloc ?_ _)); exact BK267.out) hb); have n2_ := Aside0.mk (below_step (by repeat (first | (with_reducible first | exact HB.out | apply below_alloc | apply pw_below_drewN | apply below_drew1 | refine below_set ?_ GE263.out | refine below_set ?_ GE267.out) | exact HB.out)) hb); have n3_ := Aside0.mk (hbox); have n4_ := Aside0.mk ((by rw [hg]; exact (below_size (by repeat (first | (with_reducible first | exact HB.out | apply below_alloc | apply pw_below_drewN | apply below_drew1 | refine below_set ?_ GE263.out | refine below_set ?_ GE267.out) | exact HB.out))) : w.heap.size ≤ gb271)); have n5_ := Aside0.mk ((by rw [hg]; exact (below_size (by repeat (first | (with_reducible first | exact HB.out | apply below_alloc | apply pw_below_drewN | apply below_drew1 | refine below_set ?_ GE263.out | refine below_set ?_ GE267.out) | exact HB.out))) : w.heap.size ≤ gb271)); have n6_ := Aside0.mk ((by rw [hg]; exact Nat.ne_of_lt (blk_lt (g := gb263) (o := .cells #[.string a0_0, .int .i64 a0_1] 23 (0, 0)) (by (with_reducible repeat (first | refine blk_drewN ?_ _ | refine blk_drew ?_ | refine blk_alloc ?_ _)); exact BK263.out)) : gb263 ≠ gb271)); have n7_ := Aside0.mk ((by rw [hg]; exact Nat.ne_of_gt (blk_lt (g := gb263) (o := .cells #[.string a0_0, .int .i64 a0_1] 23 (0, 0)) (by (with_reducible repeat (first | refine blk_drewN ?_ _ | refine blk_drew ?_ | refine blk_alloc ?_ _)); exact BK263.out)) : gb271 ≠ gb263)); have n8_ := Aside0.mk ((by rw [hg]; exact Nat.ne_of_lt (blk_lt (g := gb267) (o := .cells #[.string t264, .int .i64 t265] 23 (0, 0)) (by (with_reducible repeat (first | refine blk_drewN ?_ _ | refine blk_drew ?_ | refine blk_alloc ?_ _)); exact BK267.out)) : gb267 ≠ gb271)); have n9_ := Aside0.mk ((by rw [hg]; exact Nat.ne_of_gt (blk_lt (g := gb267) (o := .cells #[.string t264, .int .i64 t265] 23 (0, 0)) (by (with_reducible repeat (first | refine blk_drewN ?_ _ | refine blk_drew ?_ | refine blk_alloc ?_ _)); exact BK267.out)) : gb271 ≠ gb267)); clear BK263; clear BK267; clear HB; have BK263 := n0_; have BK267 := n1_; have HB := n2_; have BK271 := n3_; have GW271 := n4_; have GE271 := n5_; have NB263_271 := n6_; have NB271_263 := n7_; have NB267_271 := n8_; have NB271_267 := n9_; clear n0_ n1_ n2_ n3_ n4_ n5_ n6_ n7_ n8_ n9_; clear hb hbox hg; have hnb17 := NB271_263.out; have hnc17 := NB263_271.out; have hnb18 := NB271_267.out; have hnc18 := NB267_271.out; have hcz19_0 : w16.cell? ⟨gb271, 0, none⟩ = some (.string (⟨#[]⟩ : ByteArray)) := (blk_cell BK271.out 0).trans rfl; have hcz19_1 : w16.cell? ⟨gb271, 1, none⟩ = some (.int .i64 0) := (blk_cell BK271.out 1).trans rfl; have hfz19_0 := blk_frozen BK271.out 0; have hfz19_1 := blk_frozen BK271.out 1; have hcz20_0 : w16.cell? ⟨gb267, 0, none⟩ = some (.string t264) := (blk_cell BK267.out 0).trans rfl; have hcz20_1 : w16.cell? ⟨gb267, 1, none⟩ = some (.int .i64 t265) := (blk_cell BK267.out 1).trans rfl; have hfz20_0 := blk_frozen BK267.out 0; have hfz20_1 := blk_frozen BK267.out 1) | (go_at_call 15; (with_reducible refine (platenlaw04_lives.calls k  t272 _ A7.out).mono ?_); rintro e w21 ⟨rfl, hb⟩; have n0_ := Aside0.mk (blk_below (g := gb263) (o := .cells #[.string a0_0, .int .i64 a0_1] 23 (0, 0)) (by (with_reducible repeat (first | refine blk_drewN ?_ _ | refine blk_drew ?_ | refine blk_alloc ?_ _)); refine blk_far ?_ NB263_271.out _; (with_reducible repeat (first | refine blk_drewN ?_ _ | refine blk_drew ?_ | refine blk_alloc ?_ _)); refine blk_far ?_ NB263_271.out _; (with_reducible repeat (first | refine blk_drewN ?_ _ | refine blk_drew ?_ | refine blk_alloc ?_ _)); exact BK263.out) hb); have n1_ := Aside0.mk (blk_below (g := gb267) (o := .cells #[.string t264, .int .i64 t265] 23 (0, 0)) (by (with_reducible repeat (first | refine blk_drewN ?_ _ | refine blk_drew ?_ | refine blk_alloc ?_ _)); refine blk_far ?_ NB267_271.out _; (with_reducible repeat (first | refine blk_drewN ?_ _ | refine blk_drew ?_ | refine blk_alloc ?_ _)); refine blk_far ?_ NB267_271.out _; (with_reducible repeat (first | refine blk_drewN ?_ _ | refine blk_drew ?_ | refine blk_alloc ?_ _)); exact BK267.out) hb); have n2_ := Aside0.mk (blk_below (g := gb271) (o := .cells #[.string t268, .int .i64 t269] 23 (0, 0)) (by (with_reducible repeat (first | refine blk_drewN ?_ _ | refine blk_drew ?_ | refine blk_alloc ?_ _)); refine blk_put (cs := #[.string t268, .int .i64 0]) ?_ 1 _ rfl; (with_reducible repeat (first | refine blk_drewN ?_ _ | refine blk_drew ?_ | refine blk_alloc ?_ _)); refine blk_put (cs := #[.string (⟨#[]⟩ : ByteArray), .int .i64 0]) ?_ 0 _ rfl; (with_reducible repeat (first | refine blk_drewN ?_ _ | refine blk_drew ?_ | refine blk_alloc ?_ _)); exact BK271.out) hb); have n3_ := Aside0.mk (below_step (by repeat (first | (with_reducible first | exact HB.out | apply below_alloc | apply pw_below_drewN | apply below_drew1 | refine below_set ?_ GE263.out | refine below_set ?_ GE267.out | refine below_set ?_ GE271.out) | exact HB.out)) hb); clear BK263; clear BK267; clear BK271; clear HB; have BK263 := n0_; have BK267 := n1_; have BK271 := n2_; have HB := n3_; clear n0_ n1_ n2_ n3_; (try clear hb); (try clear hb2); (try clear hk); (try clear hi)))
   go_ret
   exact ⟨by first | rfl | (simp [errW_none, errW_some] <;> rfl) | (simp [*, errW_none, errW_some] <;> rfl), by repeat (first | (with_reducible first | exact HB.out | apply below_alloc | apply pw_below_drewN | apply below_drew1 | refine below_set ?_ GE263.out | refine below_set ?_ GE267.out | refine below_set ?_ GE271.out) | exact HB.out)⟩
  ·rw [if_neg c6] at H
   have c6b0 : (t266 == t270) = false := beq_eq_false_iff_ne.mpr c6
   have c6b1 : (t266 != t270) = true := bne_iff_ne.mpr c6
   obtain rfl := Option.some.inj H
   go_enter Tryd.func5, Tryd.ntmps5
   go_wp2_with (first | ((with_reducible refine gate_dst (N := 2) rfl ?_); refine box_event ?hg (N := 2) ?hd (cs := #[.string a0_0, .int .i64 a0_1]) (t := 23) ?hr ?_; (case hd => rfl); (case hg => rfl); (case hr => first | (go_simp; done) | (go_simp; rfl)); intro gb263 hg w22 hbox hb; have n0_ := Aside0.mk (below_step (by repeat (first | (with_reducible first | exact HB.out | apply below_alloc | apply pw_below_drewN | apply below_drew1) | exact HB.out)) hb); have n1_ := Aside0.mk (hbox); have n2_ := Aside0.mk ((by rw [hg]; exact (below_size (by repeat (first | (with_reducible first | exact HB.out | apply below_alloc | apply pw_below_drewN | apply below_drew1) | exact HB.out))) : w.heap.size ≤ gb263)); have n3_ := Aside0.mk ((by rw [hg]; exact (below_size (by repeat (first | (with_reducible first | exact HB.out | apply below_alloc | apply pw_below_drewN | apply below_drew1) | exact HB.out))) : w.heap.size ≤ gb263)); clear HB; have HB := n0_; have BK263 := n1_; have GW263 := n2_; have GE263 := n3_; clear n0_ n1_ n2_ n3_; clear hb hbox hg; have hcz23_0 : w22.cell? ⟨gb263, 0, none⟩ = some (.string a0_0) := (blk_cell BK263.out 0).trans rfl; have hcz23_1 : w22.cell? ⟨gb263, 1, none⟩ = some (.int .i64 a0_1) := (blk_cell BK263.out 1).trans rfl; have hfz23_0 := blk_frozen BK263.out 0; have hfz23_1 := blk_frozen BK263.out 1) | ((with_reducible refine gate_callee (f := 18) rfl ?_); refine goesL_ (some 12) rfl rfl Tryd.func18 (by kernel_rfl) rfl #[.agg #[.string a0_0, .int .i64 a0_1], .int .i64 a1] rfl (by (try simp only [List.map_toArray, List.map_cons, List.map_nil]); first | done | rfl | (simp only [List.length_drop, List.length_take]; rfl)) ?_; (with_reducible refine (bigdec_Round.calls k a0_0 a0_1 a1 t264 t265 t266 _ A3.out).mono ?_); rintro e w24 ⟨rfl, hb⟩; refine ⟨_, rfl, ?_⟩; have n0_ := Aside0.mk (blk_below (g := gb263) (o := .cells #[.string a0_0, .int .i64 a0_1] 23 (0, 0)) (by (with_reducible repeat (first | refine blk_drewN ?_ _ | refine blk_drew ?_ | refine blk_alloc ?_ _)); exact BK263.out) hb); have n1_ := Aside0.mk (below_step (by repeat (first | (with_reducible first | exact HB.out | apply below_alloc | apply pw_below_drewN | apply below_drew1 | refine below_set ?_ GE263.out) | exact HB.out)) hb); clear BK263; clear HB; have BK263 := n0_; have HB := n1_; clear n0_ n1_; (try clear hb); (try clear hb2); (try clear hk); (try clear hi)) | ((with_reducible refine gate_dst (N := 5) rfl ?_); refine box_event ?hg (N := 5) ?hd (cs := #[.string (⟨#[]⟩ : ByteArray), .int .i64 0]) (t := 23) ?hr ?_; (case hd => rfl); (case hg => rfl); (case hr => first | (go_simp; done) | (go_simp; rfl)); intro gb267 hg w25 hbox hb; have n0_ := Aside0.mk (blk_below (g := gb263) (o := .cells #[.string a0_0, .int .i64 a0_1] 23 (0, 0)) (by (with_reducible repeat (first | refine blk_drewN ?_ _ | refine blk_drew ?_ | refine blk_alloc ?_ _)); exact BK263.out) hb); have n1_ := Aside0.mk (below_step (by repeat (first | (with_reducible first | exact HB.out | apply below_alloc | apply pw_below_drewN | apply below_drew1 | refine below_set ?_ GE263.out) | exact HB.out)) hb); have n2_ := Aside0.mk (hbox); have n3_ := Aside0.mk ((by rw [hg]; exact (below_size (by repeat (first | (with_reducible first | exact HB.out | apply below_alloc | apply pw_below_drewN | apply below_drew1 | refine below_set ?_ GE263.out) | exact HB.out))) : w.heap.size ≤ gb267)); have n4_ := Aside0.mk ((by rw [hg]; exact (below_size (by repeat (first | (with_reducible first | exact HB.out | apply below_alloc | apply pw_below_drewN | apply below_drew1 | refine below_set ?_ GE263.out) | exact HB.out))) : w.heap.size ≤ gb267)); have n5_ := Aside0.mk ((by rw [hg]; exact Nat.ne_of_lt (blk_lt (g := gb263) (o := .cells #[.string a0_0, .int .i64 a0_1] 23 (0, 0)) (by (with_reducible repeat (first | refine blk_drewN ?_ _ | refine blk_drew ?_ | refine blk_alloc ?_ _)); exact BK263.out)) : gb263 ≠ gb267)); have n6_ := Aside0.mk ((by rw [hg]; exact Nat.ne_of_gt (blk_lt (g := gb263) (o := .cells #[.string a0_0, .int .i64 a0_1] 23 (0, 0)) (by (with_reducible repeat (first | refine blk_drewN ?_ _ | refine blk_drew ?_ | refine blk_alloc ?_ _)); exact BK263.out)) : gb267 ≠ gb263)); clear BK263; clear HB; have BK263 := n0_; have HB := n1_; have BK267 := n2_; have GW267 := n3_; have GE267 := n4_; have NB263_267 := n5_; have NB267_263 := n6_; clear n0_ n1_ n2_ n3_ n4_ n5_ n6_; clear hb hbox hg; have hnb26 := NB267_263.out; have hnc26 := NB263_267.out; have hcz27_0 : w25.cell? ⟨gb267, 0, none⟩ = some (.string (⟨#[]⟩ : ByteArray)) := (blk_cell BK267.out 0).trans rfl; have hcz27_1 : w25.cell? ⟨gb267, 1, none⟩ = some (.int .i64 0) := (blk_cell BK267.out 1).trans rfl; have hfz27_0 := blk_frozen BK267.out 0; have hfz27_1 := blk_frozen BK267.out 1; have hcz28_0 : w25.cell? ⟨gb263, 0, none⟩ = some (.string a0_0) := (blk_cell BK263.out 0).trans rfl; have hcz28_1 : w25.cell? ⟨gb263, 1, none⟩ = some (.int .i64 a0_1) := (blk_cell BK263.out 1).trans rfl; have hfz28_0 := blk_frozen BK263.out 0; have hfz28_1 := blk_frozen BK263.out 1) | ((with_reducible refine gate_callee (f := 19) rfl ?_); refine goesL_ (some 18) rfl rfl Tryd.func19 (by kernel_rfl) rfl #[.agg #[.string a0_0, .int .i64 a0_1], .int .i64 a1] rfl (by (try simp only [List.map_toArray, List.map_cons, List.map_nil]); first | done | rfl | (simp only [List.length_drop, List.length_take]; rfl)) ?_; (with_reducible refine (platenref04_Round.calls k a0_0 a0_1 a1 t268 t269 t270 _ A4.out).mono ?_); rintro e w29 ⟨rfl, hb⟩; refine ⟨_, rfl, ?_⟩; have n0_ := Aside0.mk (blk_below (g := gb263) (o := .cells #[.string a0_0, .int .i64 a0_1] 23 (0, 0)) (by (with_reducible repeat (first | refine blk_drewN ?_ _ | refine blk_drew ?_ | refine blk_alloc ?_ _)); refine blk_far ?_ NB263_267.out _; (with_reducible repeat (first | refine blk_drewN ?_ _ | refine blk_drew ?_ | refine blk_alloc ?_ _)); refine blk_far ?_ NB263_267.out _; (with_reducible repeat (first | refine blk_drewN ?_ _ | refine blk_drew ?_ | refine blk_alloc ?_ _)); exact BK263.out) hb); have n1_ := Aside0.mk (blk_below (g := gb267) (o := .cells #[.string t264, .int .i64 t265] 23 (0, 0)) (by (with_reducible repeat (first | refine blk_drewN ?_ _ | refine blk_drew ?_ | refine blk_alloc ?_ _)); refine blk_put (cs := #[.string t264, .int .i64 0]) ?_ 1 _ rfl; (with_reducible repeat (first | refine blk_drewN ?_ _ | refine blk_drew ?_ | refine blk_alloc ?_ _)); refine blk_put (cs := #[.string (⟨#[]⟩ : ByteArray), .int .i64 0]) ?_ 0 _ rfl; (with_reducible repeat (first | refine blk_drewN ?_ _ | refine blk_drew ?_ | refine blk_alloc ?_ _)); exact BK267.out) hb); have n2_ := Aside0.mk (below_step (by repeat (first | (with_reducible first | exact HB.out | apply below_alloc | apply pw_below_drewN | apply below_drew1 | refine below_set ?_ GE263.out | refine below_set ?_ GE267.out) | exact HB.out)) hb); clear BK263; clear BK267; clear HB; have BK263 := n0_; have BK267 := n1_; have HB := n2_; clear n0_ n1_ n2_; (try clear hb); (try clear hb2); (try clear hk); (try clear hi)) | ((with_reducible refine gate_dst (N := 7) rfl ?_); refine box_event ?hg (N := 7) ?hd (cs := #[.string (⟨#[]⟩ : ByteArray), .int .i64 0]) (t := 23) ?hr ?_; (case hd => rfl); (case hg => rfl); (case hr => first | (go_simp; done) | (go_simp; rfl)); intro gb271 hg w30 hbox hb; have n0_ := Aside0.mk (blk_below (g := gb263) (o := .cells #[.string a0_0, .int .i64 a0_1] 23 (0, 0)) (by (with_reducible repeat (first | refine blk_drewN ?_ _ | refine blk_drew ?_ | refine blk_alloc ?_ _)); exact BK263.out) hb); have n1_ := Aside0.mk (blk_below (g := gb267) (o := .cells #[.string t264, .int .i64 t265] 23 (0, 0)) (by (with_reducible repeat (first | refine blk_drewN ?_ _ | refine blk_drew ?_ | refine blk_alloc ?_ _)); exact BK267.out) hb); have n2_ := Aside0.mk (below_step (by repeat (first | (with_reducible first | exact HB.out | apply below_alloc | apply pw_below_drewN | apply below_drew1 | refine below_set ?_ GE263.out | refine below_set ?_ GE267.out) | exact HB.out)) hb); have n3_ := Aside0.mk (hbox); have n4_ := Aside0.mk ((by rw [hg]; exact (below_size (by repeat (first | (with_reducible first | exact HB.out | apply below_alloc | apply pw_below_drewN | apply below_drew1 | refine below_set ?_ GE263.out | refine below_set ?_ GE267.out) | exact HB.out))) : w.heap.size ≤ gb271)); have n5_ := Aside0.mk ((by rw [hg]; exact (below_size (by repeat (first | (with_reducible first | exact HB.out | apply below_alloc | apply pw_below_drewN | apply below_drew1 | refine below_set ?_ GE263.out | refine below_set ?_ GE267.out) | exact HB.out))) : w.heap.size ≤ gb271)); have n6_ := Aside0.mk ((by rw [hg]; exact Nat.ne_of_lt (blk_lt (g := gb263) (o := .cells #[.string a0_0, .int .i64 a0_1] 23 (0, 0)) (by (with_reducible repeat (first | refine blk_drewN ?_ _ | refine blk_drew ?_ | refine blk_alloc ?_ _)); exact BK263.out)) : gb263 ≠ gb271)); have n7_ := Aside0.mk ((by rw [hg]; exact Nat.ne_of_gt (blk_lt (g := gb263) (o := .cells #[.string a0_0, .int .i64 a0_1] 23 (0, 0)) (by (with_reducible repeat (first | refine blk_drewN ?_ _ | refine blk_drew ?_ | refine blk_alloc ?_ _)); exact BK263.out)) : gb271 ≠ gb263)); have n8_ := Aside0.mk ((by rw [hg]; exact Nat.ne_of_lt (blk_lt (g := gb267) (o := .cells #[.string t264, .int .i64 t265] 23 (0, 0)) (by (with_reducible repeat (first | refine blk_drewN ?_ _ | refine blk_drew ?_ | refine blk_alloc ?_ _)); exact BK267.out)) : gb267 ≠ gb271)); have n9_ := Aside0.mk ((by rw [hg]; exact Nat.ne_of_gt (blk_lt (g := gb267) (o := .cells #[.string t264, .int .i64 t265] 23 (0, 0)) (by (with_reducible repeat (first | refine blk_drewN ?_ _ | refine blk_drew ?_ | refine blk_alloc ?_ _)); exact BK267.out)) : gb271 ≠ gb267)); clear BK263; clear BK267; clear HB; have BK263 := n0_; have BK267 := n1_; have HB := n2_; have BK271 := n3_; have GW271 := n4_; have GE271 := n5_; have NB263_271 := n6_; have NB271_263 := n7_; have NB267_271 := n8_; have NB271_267 := n9_; clear n0_ n1_ n2_ n3_ n4_ n5_ n6_ n7_ n8_ n9_; clear hb hbox hg; have hnb31 := NB271_263.out; have hnc31 := NB263_271.out; have hnb32 := NB271_267.out; have hnc32 := NB267_271.out; have hcz33_0 : w30.cell? ⟨gb271, 0, none⟩ = some (.string (⟨#[]⟩ : ByteArray)) := (blk_cell BK271.out 0).trans rfl; have hcz33_1 : w30.cell? ⟨gb271, 1, none⟩ = some (.int .i64 0) := (blk_cell BK271.out 1).trans rfl; have hfz33_0 := blk_frozen BK271.out 0; have hfz33_1 := blk_frozen BK271.out 1; have hcz34_0 : w30.cell? ⟨gb267, 0, none⟩ = some (.string t264) := (blk_cell BK267.out 0).trans rfl; have hcz34_1 : w30.cell? ⟨gb267, 1, none⟩ = some (.int .i64 t265) := (blk_cell BK267.out 1).trans rfl; have hfz34_0 := blk_frozen BK267.out 0; have hfz34_1 := blk_frozen BK267.out 1))
   go_ret
   exact ⟨by first | rfl | (simp [errW_none, errW_some] <;> rfl) | (simp [*, errW_none, errW_some] <;> rfl), by repeat (first | (with_reducible first | exact HB.out | apply below_alloc | apply pw_below_drewN | apply below_drew1 | refine below_set ?_ GE263.out | refine below_set ?_ GE267.out | refine below_set ?_ GE271.out) | exact HB.out)⟩
 ·rw [if_neg c5] at H
  have c5b0 : (t264.toList == t268.toList && (t265 == t269)) = false := by simpa using c5
  (try (have c5b1 : decide (t264.toList = t268.toList && (t265 == t269)) = false := by simpa using c5))
  (try (have c5b2 : (t264.toList == t268.toList && (t265 == t269)) = false := by simpa using c5))
  (try (have c5b3 : ¬ (t264.toList = t268.toList && (t265 == t269)) := by simpa using c5))
  clear c5
  obtain rfl := Option.some.inj H
  go_enter Tryd.func5, Tryd.ntmps5
  go_wp2_with (first | ((with_reducible refine gate_dst (N := 2) rfl ?_); refine box_event ?hg (N := 2) ?hd (cs := #[.string a0_0, .int .i64 a0_1]) (t := 23) ?hr ?_; (case hd => rfl); (case hg => rfl); (case hr => first | (go_simp; done) | (go_simp; rfl)); intro gb263 hg w35 hbox hb; have n0_ := Aside0.mk (below_step (by repeat (first | (with_reducible first | exact HB.out | apply below_alloc | apply pw_below_drewN | apply below_drew1) | exact HB.out)) hb); have n1_ := Aside0.mk (hbox); have n2_ := Aside0.mk ((by rw [hg]; exact (below_size (by repeat (first | (with_reducible first | exact HB.out | apply below_alloc | apply pw_below_drewN | apply below_drew1) | exact HB.out))) : w.heap.size ≤ gb263)); have n3_ := Aside0.mk ((by rw [hg]; exact (below_size (by repeat (first | (with_reducible first | exact HB.out | apply below_alloc | apply pw_below_drewN | apply below_drew1) | exact HB.out))) : w.heap.size ≤ gb263)); clear HB; have HB := n0_; have BK263 := n1_; have GW263 := n2_; have GE263 := n3_; clear n0_ n1_ n2_ n3_; clear hb hbox hg; have hcz36_0 : w35.cell? ⟨gb263, 0, none⟩ = some (.string a0_0) := (blk_cell BK263.out 0).trans rfl; have hcz36_1 : w35.cell? ⟨gb263, 1, none⟩ = some (.int .i64 a0_1) := (blk_cell BK263.out 1).trans rfl; have hfz36_0 := blk_frozen BK263.out 0; have hfz36_1 := blk_frozen BK263.out 1) | ((with_reducible refine gate_callee (f := 18) rfl ?_); refine goesL_ (some 12) rfl rfl Tryd.func18 (by kernel_rfl) rfl #[.agg #[.string a0_0, .int .i64 a0_1], .int .i64 a1] rfl (by (try simp only [List.map_toArray, List.map_cons, List.map_nil]); first | done | rfl | (simp only [List.length_drop, List.length_take]; rfl)) ?_; (with_reducible refine (bigdec_Round.calls k a0_0 a0_1 a1 t264 t265 t266 _ A3.out).mono ?_); rintro e w37 ⟨rfl, hb⟩; refine ⟨_, rfl, ?_⟩; have n0_ := Aside0.mk (blk_below (g := gb263) (o := .cells #[.string a0_0, .int .i64 a0_1] 23 (0, 0)) (by (with_reducible repeat (first | refine blk_drewN ?_ _ | refine blk_drew ?_ | refine blk_alloc ?_ _)); exact BK263.out) hb); have n1_ := Aside0.mk (below_step (by repeat (first | (with_reducible first | exact HB.out | apply below_alloc | apply pw_below_drewN | apply below_drew1 | refine below_set ?_ GE263.out) | exact HB.out)) hb); clear BK263; clear HB; have BK263 := n0_; have HB := n1_; clear n0_ n1_; (try clear hb); (try clear hb2); (try clear hk); (try clear hi)) | ((with_reducible refine gate_dst (N := 5) rfl ?_); refine box_event ?hg (N := 5) ?hd (cs := #[.string (⟨#[]⟩ : ByteArray), .int .i64 0]) (t := 23) ?hr ?_; (case hd => rfl); (case hg => rfl); (case hr => first | (go_simp; done) | (go_simp; rfl)); intro gb267 hg w38 hbox hb; have n0_ := Aside0.mk (blk_below (g := gb263) (o := .cells #[.string a0_0, .int .i64 a0_1] 23 (0, 0)) (by (with_reducible repeat (first | refine blk_drewN ?_ _ | refine blk_drew ?_ | refine blk_alloc ?_ _)); exact BK263.out) hb); have n1_ := Aside0.mk (below_step (by repeat (first | (with_reducible first | exact HB.out | apply below_alloc | apply pw_below_drewN | apply below_drew1 | refine below_set ?_ GE263.out) | exact HB.out)) hb); have n2_ := Aside0.mk (hbox); have n3_ := Aside0.mk ((by rw [hg]; exact (below_size (by repeat (first | (with_reducible first | exact HB.out | apply below_alloc | apply pw_below_drewN | apply below_drew1 | refine below_set ?_ GE263.out) | exact HB.out))) : w.heap.size ≤ gb267)); have n4_ := Aside0.mk ((by rw [hg]; exact (below_size (by repeat (first | (with_reducible first | exact HB.out | apply below_alloc | apply pw_below_drewN | apply below_drew1 | refine below_set ?_ GE263.out) | exact HB.out))) : w.heap.size ≤ gb267)); have n5_ := Aside0.mk ((by rw [hg]; exact Nat.ne_of_lt (blk_lt (g := gb263) (o := .cells #[.string a0_0, .int .i64 a0_1] 23 (0, 0)) (by (with_reducible repeat (first | refine blk_drewN ?_ _ | refine blk_drew ?_ | refine blk_alloc ?_ _)); exact BK263.out)) : gb263 ≠ gb267)); have n6_ := Aside0.mk ((by rw [hg]; exact Nat.ne_of_gt (blk_lt (g := gb263) (o := .cells #[.string a0_0, .int .i64 a0_1] 23 (0, 0)) (by (with_reducible repeat (first | refine blk_drewN ?_ _ | refine blk_drew ?_ | refine blk_alloc ?_ _)); exact BK263.out)) : gb267 ≠ gb263)); clear BK263; clear HB; have BK263 := n0_; have HB := n1_; have BK267 := n2_; have GW267 := n3_; have GE267 := n4_; have NB263_267 := n5_; have NB267_263 := n6_; clear n0_ n1_ n2_ n3_ n4_ n5_ n6_; clear hb hbox hg; have hnb39 := NB267_263.out; have hnc39 := NB263_267.out; have hcz40_0 : w38.cell? ⟨gb267, 0, none⟩ = some (.string (⟨#[]⟩ : ByteArray)) := (blk_cell BK267.out 0).trans rfl; have hcz40_1 : w38.cell? ⟨gb267, 1, none⟩ = some (.int .i64 0) := (blk_cell BK267.out 1).trans rfl; have hfz40_0 := blk_frozen BK267.out 0; have hfz40_1 := blk_frozen BK267.out 1; have hcz41_0 : w38.cell? ⟨gb263, 0, none⟩ = some (.string a0_0) := (blk_cell BK263.out 0).trans rfl; have hcz41_1 : w38.cell? ⟨gb263, 1, none⟩ = some (.int .i64 a0_1) := (blk_cell BK263.out 1).trans rfl; have hfz41_0 := blk_frozen BK263.out 0; have hfz41_1 := blk_frozen BK263.out 1) | ((with_reducible refine gate_callee (f := 19) rfl ?_); refine goesL_ (some 18) rfl rfl Tryd.func19 (by kernel_rfl) rfl #[.agg #[.string a0_0, .int .i64 a0_1], .int .i64 a1] rfl (by (try simp only [List.map_toArray, List.map_cons, List.map_nil]); first | done | rfl | (simp only [List.length_drop, List.length_take]; rfl)) ?_; (with_reducible refine (platenref04_Round.calls k a0_0 a0_1 a1 t268 t269 t270 _ A4.out).mono ?_); rintro e w42 ⟨rfl, hb⟩; refine ⟨_, rfl, ?_⟩; have n0_ := Aside0.mk (blk_below (g := gb263) (o := .cells #[.string a0_0, .int .i64 a0_1] 23 (0, 0)) (by (with_reducible repeat (first | refine blk_drewN ?_ _ | refine blk_drew ?_ | refine blk_alloc ?_ _)); refine blk_far ?_ NB263_267.out _; (with_reducible repeat (first | refine blk_drewN ?_ _ | refine blk_drew ?_ | refine blk_alloc ?_ _)); refine blk_far ?_ NB263_267.out _; (with_reducible repeat (first | refine blk_drewN ?_ _ | refine blk_drew ?_ | refine blk_alloc ?_ _)); exact BK263.out) hb); have n1_ := Aside0.mk (blk_below (g := gb267) (o := .cells #[.string t264, .int .i64 t265] 23 (0, 0)) (by (with_reducible repeat (first | refine blk_drewN ?_ _ | refine blk_drew ?_ | refine blk_alloc ?_ _)); refine blk_put (cs := #[.string t264, .int .i64 0]) ?_ 1 _ rfl; (with_reducible repeat (first | refine blk_drewN ?_ _ | refine blk_drew ?_ | refine blk_alloc ?_ _)); refine blk_put (cs := #[.string (⟨#[]⟩ : ByteArray), .int .i64 0]) ?_ 0 _ rfl; (with_reducible repeat (first | refine blk_drewN ?_ _ | refine blk_drew ?_ | refine blk_alloc ?_ _)); exact BK267.out) hb); have n2_ := Aside0.mk (below_step (by repeat (first | (with_reducible first | exact HB.out | apply below_alloc | apply pw_below_drewN | apply below_drew1 | refine below_set ?_ GE263.out | refine below_set ?_ GE267.out) | exact HB.out)) hb); clear BK263; clear BK267; clear HB; have BK263 := n0_; have BK267 := n1_; have HB := n2_; clear n0_ n1_ n2_; (try clear hb); (try clear hb2); (try clear hk); (try clear hi)) | ((with_reducible refine gate_dst (N := 7) rfl ?_); refine box_event ?hg (N := 7) ?hd (cs := #[.string (⟨#[]⟩ : ByteArray), .int .i64 0]) (t := 23) ?hr ?_; (case hd => rfl); (case hg => rfl); (case hr => first | (go_simp; done) | (go_simp; rfl)); intro gb271 hg w43 hbox hb; have n0_ := Aside0.mk (blk_below (g := gb263) (o := .cells #[.string a0_0, .int .i64 a0_1] 23 (0, 0)) (by (with_reducible repeat (first | refine blk_drewN ?_ _ | refine blk_drew ?_ | refine blk_alloc ?_ _)); exact BK263.out) hb); have n1_ := Aside0.mk (blk_below (g := gb267) (o := .cells #[.string t264, .int .i64 t265] 23 (0, 0)) (by (with_reducible repeat (first | refine blk_drewN ?_ _ | refine blk_drew ?_ | refine blk_alloc ?_ _)); exact BK267.out) hb); have n2_ := Aside0.mk (below_step (by repeat (first | (with_reducible first | exact HB.out | apply below_alloc | apply pw_below_drewN | apply below_drew1 | refine below_set ?_ GE263.out | refine below_set ?_ GE267.out) | exact HB.out)) hb); have n3_ := Aside0.mk (hbox); have n4_ := Aside0.mk ((by rw [hg]; exact (below_size (by repeat (first | (with_reducible first | exact HB.out | apply below_alloc | apply pw_below_drewN | apply below_drew1 | refine below_set ?_ GE263.out | refine below_set ?_ GE267.out) | exact HB.out))) : w.heap.size ≤ gb271)); have n5_ := Aside0.mk ((by rw [hg]; exact (below_size (by repeat (first | (with_reducible first | exact HB.out | apply below_alloc | apply pw_below_drewN | apply below_drew1 | refine below_set ?_ GE263.out | refine below_set ?_ GE267.out) | exact HB.out))) : w.heap.size ≤ gb271)); have n6_ := Aside0.mk ((by rw [hg]; exact Nat.ne_of_lt (blk_lt (g := gb263) (o := .cells #[.string a0_0, .int .i64 a0_1] 23 (0, 0)) (by (with_reducible repeat (first | refine blk_drewN ?_ _ | refine blk_drew ?_ | refine blk_alloc ?_ _)); exact BK263.out)) : gb263 ≠ gb271)); have n7_ := Aside0.mk ((by rw [hg]; exact Nat.ne_of_gt (blk_lt (g := gb263) (o := .cells #[.string a0_0, .int .i64 a0_1] 23 (0, 0)) (by (with_reducible repeat (first | refine blk_drewN ?_ _ | refine blk_drew ?_ | refine blk_alloc ?_ _)); exact BK263.out)) : gb271 ≠ gb263)); have n8_ := Aside0.mk ((by rw [hg]; exact Nat.ne_of_lt (blk_lt (g := gb267) (o := .cells #[.string t264, .int .i64 t265] 23 (0, 0)) (by (with_reducible repeat (first | refine blk_drewN ?_ _ | refine blk_drew ?_ | refine blk_alloc ?_ _)); exact BK267.out)) : gb267 ≠ gb271)); have n9_ := Aside0.mk ((by rw [hg]; exact Nat.ne_of_gt (blk_lt (g := gb267) (o := .cells #[.string t264, .int .i64 t265] 23 (0, 0)) (by (with_reducible repeat (first | refine blk_drewN ?_ _ | refine blk_drew ?_ | refine blk_alloc ?_ _)); exact BK267.out)) : gb271 ≠ gb267)); clear BK263; clear BK267; clear HB; have BK263 := n0_; have BK267 := n1_; have HB := n2_; have BK271 := n3_; have GW271 := n4_; have GE271 := n5_; have NB263_271 := n6_; have NB271_263 := n7_; have NB267_271 := n8_; have NB271_267 := n9_; clear n0_ n1_ n2_ n3_ n4_ n5_ n6_ n7_ n8_ n9_; clear hb hbox hg; have hnb44 := NB271_263.out; have hnc44 := NB263_271.out; have hnb45 := NB271_267.out; have hnc45 := NB267_271.out; have hcz46_0 : w43.cell? ⟨gb271, 0, none⟩ = some (.string (⟨#[]⟩ : ByteArray)) := (blk_cell BK271.out 0).trans rfl; have hcz46_1 : w43.cell? ⟨gb271, 1, none⟩ = some (.int .i64 0) := (blk_cell BK271.out 1).trans rfl; have hfz46_0 := blk_frozen BK271.out 0; have hfz46_1 := blk_frozen BK271.out 1; have hcz47_0 : w43.cell? ⟨gb267, 0, none⟩ = some (.string t264) := (blk_cell BK267.out 0).trans rfl; have hcz47_1 : w43.cell? ⟨gb267, 1, none⟩ = some (.int .i64 t265) := (blk_cell BK267.out 1).trans rfl; have hfz47_0 := blk_frozen BK267.out 0; have hfz47_1 := blk_frozen BK267.out 1))
  go_ret
  exact ⟨by first | rfl | (simp [errW_none, errW_some] <;> rfl) | (simp [*, errW_none, errW_some] <;> rfl), by repeat (first | (with_reducible first | exact HB.out | apply below_alloc | apply pw_below_drewN | apply below_drew1 | refine below_set ?_ GE263.out | refine below_set ?_ GE267.out | refine below_set ?_ GE271.out) | exact HB.out)⟩
end Go.Proofs.YtobidkjmgkmaoaaDoor.Fn
end
section
namespace Go.Proofs.YtobidkjmgkmaoaaDoor.Pure
open Go.RowKit Go.Proofs.YtobidkjmgkmaoaaDoorW.PrintWords Go.Proofs.YtobidkjmgkmaoaaDoor.Fn
theorem BigdecRounds : ∀ (a0_0 : ByteArray) (a0_1 : Int) (a1 : Int), a0_0.size ≤ maxLen → (Lit.int .i64 a0_1).wf = true → (Lit.int .i64 a1).wf = true → ∃ k, platenlaw04_BigdecRounds.f k a0_0 a0_1 a1 = some true := by
  intro s p n _ _ _
  refine (Ev.bind (roundS_eq s p n) (Ev.bind (rroundS_eq s p n) ?_)).rounds
  exact Ev.congr (fun k => by rw [if_pos (by simp), if_pos rfl]) (Ev.bind lives4 (Ev.now _))
end Go.Proofs.YtobidkjmgkmaoaaDoor.Pure
end
