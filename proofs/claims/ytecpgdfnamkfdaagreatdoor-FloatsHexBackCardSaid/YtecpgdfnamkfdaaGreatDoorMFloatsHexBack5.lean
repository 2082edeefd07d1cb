/- The law FloatsHexBack: the walks through its functions and its plain law (part 5). Own texts and the kit's printed words for this seat, without what the law does not use: put together by merge.py (of this work). -/
import Derived.Test.YtecpgdfnamkfdaaGreatDoorMFloatsHexBack4
import Derived.Handy
section
namespace Go.Proofs.YtecpgdfnamkfdaaGreatDoor.Fn
open Go.RowKit Go.Proofs.YtecpgdfnamkfdaaGreatDoorW.PrintWords Go.Proofs.YtecpgdfnamkfdaaGreatDoorW.PrintLast Go.Proofs.YtecpgdfnamkfdaaGreatDoorW.PrintMore
set_option linter.unusedVariables false
set_option linter.unusedSimpArgs false
def limb9 (x : Int) : List Int :=
  [48 + x / 10 / 10 / 10 / 10 / 10 / 10 / 10 / 10 % 10, 48 + x / 10 / 10 / 10 / 10 / 10 / 10 / 10 % 10, 48 + x / 10 / 10 / 10 / 10 / 10 / 10 % 10, 48 + x / 10 / 10 / 10 / 10 / 10 % 10,
   48 + x / 10 / 10 / 10 / 10 % 10, 48 + x / 10 / 10 / 10 % 10, 48 + x / 10 / 10 % 10, 48 + x / 10 % 10, 48 + x % 10]
def limbsText (l : List Int) : List Int := (l.reverse.map limb9).flatten
def bigdec_text.f (k : Nat) (l0 : List Int) : Option ByteArray :=
  if l0.length ≤ 100000 ∧ ∀ x ∈ l0, 0 ≤ x ∧ x ≤ 999999999 then (bigdec_trimmed_uint64.f k l0).bind fun l => if l.length ≤ l0.length ∧ ∀ x ∈ l, 0 ≤ x ∧ x ≤ 999999999 then strings_TrimLeft.f (strOfNums (limbsText l)) ⟨#[48]⟩ else none else none
theorem infoU8 : (Tryz.prog.info? 5).map (fun i => (i.zero, i.size, i.bytes)) = some (some (.int .u8 0), 1, 1) := by kernel_rfl
theorem limbsText_length (l : List Int) : (limbsText l).length = 9 * l.length := by
  unfold limbsText
  rw [List.length_flatten, List.map_map]
  have : (List.length ∘ limb9) = fun _ => 9 := by funext x; rfl
  rw [this, List.map_const', List.sum_replicate_nat, List.length_reverse]
  omega
theorem rd_nonneg {l : List Int} (h : ∀ x ∈ l, 0 ≤ x ∧ x ≤ 999999999) (i : Int) : 0 ≤ rd l i ∧ rd l i ≤ 999999999 := by
  unfold rd
  rw [List.getD_eq_getElem?_getD]
  cases hg : l[i.toNat]? with
  | none => simp
  | some x => exact h x (List.mem_of_getElem? hg)
theorem limb_reads (W : World) (x : Int) (t : TypeId) : (Kd.int .u8).C (W.alloc (.cells #[.int .u8 (48 + x / 10 / 10 / 10 / 10 / 10 / 10 / 10 / 10 % 10), .int .u8 (48 + x / 10 / 10 / 10 / 10 / 10 / 10 / 10 % 10), .int .u8 (48 + x / 10 / 10 / 10 / 10 / 10 / 10 % 10), .int .u8 (48 + x / 10 / 10 / 10 / 10 / 10 % 10), .int .u8 (48 + x / 10 / 10 / 10 / 10 % 10), .int .u8 (48 + x / 10 / 10 / 10 % 10), .int .u8 (48 + x / 10 / 10 % 10), .int .u8 (48 + x / 10 % 10), .int .u8 (48 + x % 10)] t)) (some ⟨W.heap.size, 0, none⟩) 9 (limb9 x) := by
  refine Kd.C_of_reads (d := (0 : Int)) (h1 := fun _ => rfl) (⟨rfl, by decide, fun _ => ⟨_, rfl, fun j hj => ?_⟩⟩ : ReadsInt _ .u8 _ 9 (limb9 x))
  rw [add_plain, blk_cell (heap_alloc_new W _) j]
  rcases j with _ | _ | _ | _ | _ | _ | _ | _ | _ | j
  all_goals first | rfl | omega
theorem limbsText_drop (l : List Int) (m : Nat) (h : m < l.length) : limbsText (l.drop m) = limbsText (l.drop (m + 1)) ++ limb9 (rd l m) := by
  unfold limbsText
  rw [List.drop_eq_getElem_cons h]
  have : rd l m = l[m] := by simp [rd, List.getD_eq_getElem?_getD, List.getElem?_eq_getElem h]
  rw [this, List.reverse_cons, List.map_append, List.flatten_append]
  simp only [List.map_cons, List.map_nil, List.flatten_cons, List.flatten_nil, List.append_nil]
set_option maxHeartbeats 4000000 in
set_option maxRecDepth 100000 in
theorem bigdec_text.calls (k : Nat) (A0 : Option Addr) (c0 : Nat) (l0 : List Int) (r : ByteArray) (w : World) (hr0 : Kd.C (Kd.int .u64) w A0 l0.length l0) (hc0 : l0.length ≤ c0) (h : bigdec_text.f k l0 = some r) :
    Calls Tryz.prog 48 #[.slice A0 l0.length c0] w fun e w' => e = .returned (.string r) ∧ Below w.heap.size w w' := by
  unfold bigdec_text.f at h
  split at h
  case isFalse => cases h
  rename_i hl
  obtain ⟨hlen, hpos⟩ := hl
  obtain ⟨l, hl1, h⟩ := Option.bind_eq_some_iff.1 h
  split at h
  case isFalse => cases h
  rename_i hl2
  obtain ⟨hll, hlp⟩ := hl2
  have H1 := Aside0.mk hl1
  have H2 := Aside0.mk h
  have HR := Aside0.mk hr0
  have HP := Aside0.mk hlp
  clear hl1 h hr0 hpos hlp
  go_enter Tryz.func48, Tryz.ntmps48
  go_wp2_with (go_at_call 78; refine (bigdec_trimmed_uint64.calls k (fun _ => True) A0 c0 l0 l _ ⟨A0, c0, rfl, hc0, fun W' hW => (Kd.heap_int .u64).C (fun k hk => hW k trivial hk) HR.out⟩ H1.out).mono ?_; rintro e w1 ⟨v0, rfl, hV, hb⟩; obtain ⟨A1, c1, rfl⟩ := Kd.V_slice hV; have HV := Aside0.mk hV; have HB := Aside0.mk hb; clear hV hb)
  have hC1 := Aside0.mk (Kd.V_reads' HV.out).2.2
  go_loopw [3, 4] (fun v i wr => ∃ j : Nat, j ≤ l.length ∧ i = .int .i64 ((j : Int) - 1) ∧ Aside0 (Kd.R (Kd.int .u8) 5 wr w1.heap.size (fun _ => True) v (limbsText (l.drop j))) ∧ Aside0 (Below w1.heap.size w1 wr)) (fun _ i _ => (intOf i + 1).toNat)
  case atStart => exact ⟨l.length, Nat.le_refl _, rfl, ⟨by rw [List.drop_length]; exact Kd.R_nil _ _ _ _ _⟩, ⟨Below.refl _ _⟩⟩
  case round =>
    obtain ⟨j, hj, rfl, HO, HBR⟩ := hrel
    cases j with
    | zero =>
      have hcv := own_string (P := Tryz.prog) (dst := 9) Tryz.underlying51 Tryz.underlying5 Tryz.underlying9 (Kd.own_of_R HO.out)
      rw [List.drop_zero] at hcv
      go_wp2_with (go_at_call 79; refine (strings_TrimLeft.calls (strOfNums (limbsText l)) ⟨#[48]⟩ r _ H2.out).mono ?_; rintro e w2 ⟨rfl, hb2⟩)
      go_ret
      exact ⟨rfl, below_then (below_then HB.out HB.out.size HBR.out) (Nat.le_trans HB.out.size HBR.out.size) hb2⟩
    | succ m =>
      have hm : m < l.length := hj
      obtain ⟨hx, hx9⟩ := rd_nonneg HP.out (m : Int)
      obtain ⟨ad, rfl, hcell⟩ := Kd.at_int hC1.out (m : Int) (by omega) (by omega)
      have hcw : wr.cell? (ad.add m) = some (.int .u64 (rd l m)) := pw_cell_below HBR.out hcell
      have hdr := Aside0.mk (limbsText_drop l m hm)
      generalize rd l m = x at hcw hx hx9 hdr
      rw [show (((m + 1 : Nat) : Int) - 1) = (m : Int) by omega]
      have hcw2 := fun o => pw_cell_below (below_alloc (Below.refl wr.heap.size wr) o) hcw
      clear hcw hcell
      have hB2 : Below w1.heap.size w1 wr := HBR.out
      go_wp2
      refine wp_loop_rounds 10 ?_
      repeat any_goals (rw [rounds_succ]; go_wp2_with ((with_reducible refine gate_builtin (b := .append) (xs := #[.tmp 33, .tmp 34]) rfl ?_); at_builtin; refine Kd.R_append_rows (Kd.int .u8) (w0 := w1) w1.heap.size rfl (.tmp 33) (.tmp 34) 51 5 (.int .u8 0) 1 rfl Tryz.underlying51 infoU8 rfl (by decide) (by omega) u3 (limbsText (l.drop (m + 1))) (limb9 x) _ _ _ (fun _ => True) (fun _ => False) rfl rfl ?aO ?aR (fun _ _ h => h) (fun _ h => h.elim) (fun _ _ => trivial) ?aB ?aS ?aL ?_; (case aO => exact Kd.R_alloc HO.out _); (case aR => exact limb_reads wr x 113); (case aB => exact HBR.out.alloc HBR.out.size _); (case aS => have := HBR.out.size; simp; omega); (case aL => rw [limbsText_length, List.length_drop]; omega); intro v1 w3 hO3 hB3 hg3 hat3; have HO3 := Aside0.mk hO3; have HB3 := Aside0.mk hB3; clear hO3 hB3 hg3 hat3))
      go_roundw
      case rel => exact ⟨m, by omega, by go_num, ⟨by rw [hdr.out]; exact HO3.out⟩, HB3⟩
      case measure => simp [intOf]
end Go.Proofs.YtecpgdfnamkfdaaGreatDoor.Fn
end
section
namespace Go.Proofs.YtecpgdfnamkfdaaGreatDoor.Fn
open Go.RowKit Go.Proofs.YtecpgdfnamkfdaaGreatDoorW.PrintWords Go.Proofs.YtecpgdfnamkfdaaGreatDoorW.PrintLast Go.Proofs.YtecpgdfnamkfdaaGreatDoorW.PrintMore
attribute [local go_sem] fnW_0 fnW_1 fnW_2 fnW_3 fnW_4 fnW_5 fnW_guard fnW_eql max2_int min2_int max_two min_two
set_option linter.unusedVariables false
set_option linter.unusedSimpArgs false
mutual
def bigdec_Exact.j0 : Nat → Int → Int → Bool → Option (ByteArray × Int × Int)
 | 0, _, _, _ => none
 | k + 1, x0, x1, x15 => if x15 = true then (some ((⟨#[]⟩ : ByteArray), 0, 1)) else ((some (([Int.tmod x0 1000000000, Int.tmod (IntKind.u64.wrap (Int.tdiv x0 1000000000)) 1000000000, IntKind.u64.wrap (Int.tdiv (IntKind.u64.wrap (Int.tdiv x0 1000000000)) 1000000000)] : List Int) : List Int)).bind fun y153 => (if x1 < 0 then (bigdec_Exact.j1 k (wrap64 (-x1)) y153 5 x1) else (bigdec_Exact.j1 k x1 y153 2 0)))
def bigdec_Exact.j1 : Nat → Int → List Int → Int → Int → Option (ByteArray × Int × Int)
 | 0, _, _, _, _ => none
 | k + 1, x1, x6, x7, x8 => bigdec_Exact.l0 k x1 x6 x7 x8
def bigdec_Exact.l0 : Nat → Int → List Int → Int → Int → Option (ByteArray × Int × Int)
 | 0, _, _, _, _ => none
 | k + 1, x1, x6, x7, x8 => if x1 ≥ 8 then ((bigdec_times.f k x6 (IntKind.u64.wrap ((IntKind.u64.wrap ((IntKind.u64.wrap ((IntKind.u64.wrap ((IntKind.u64.wrap ((IntKind.u64.wrap ((IntKind.u64.wrap (x7 * x7)) * x7)) * x7)) * x7)) * x7)) * x7)) * x7))).bind fun t156 => (bigdec_Exact.l0 k (wrap64 (x1 - 8)) t156 x7 x8)) else (bigdec_Exact.l1 k x1 x6 x7 x8)
def bigdec_Exact.l1 : Nat → Int → List Int → Int → Int → Option (ByteArray × Int × Int)
 | 0, _, _, _, _ => none
 | k + 1, x1, x6, x7, x8 => if x1 > 0 then ((bigdec_times.f k x6 x7).bind fun t159 => (bigdec_Exact.l1 k (wrap64 (x1 - 1)) t159 x7 x8)) else ((bigdec_text.f k x6).bind fun t162 => ((bigdec_form.f t162 (wrap64 ((t162.size : Int) + x8))).bind fun bt163 => (some (bt163.1, bt163.2, 0))))
end
def bigdec_Exact.f (k : Nat) (a0 : Int) (a1 : Int) : Option (ByteArray × Int × Int) := if a1 < (-1200) then (bigdec_Exact.j0 k a0 a1 true) else (bigdec_Exact.j0 k a0 a1 (decide (a1 > 1200)))
set_option maxHeartbeats 8000000 in
set_option maxRecDepth 100000 in
theorem bigdec_Exact.calls (k : Nat) (a0 : Int) (a1 : Int) (r1 : ByteArray) (r2 : Int) (r3 : Int) (w : World) (h : bigdec_Exact.f k a0 a1 = some (r1, r2, r3)) :
  Calls Tryz.prog 29 #[.int .u64 a0, .int .i64 a1] w fun e w' => e = .returned (.tuple #[.agg #[.string r1, .int .i64 r2], .int .i64 r3]) ∧ Below w.heap.size w w' := by
 have hu42 := Tryz.underlying42
 have HB := Aside0.mk (Below.refl w.heap.size w)
 have H : (if a1 < (-1200) then (bigdec_Exact.j0 k a0 a1 true) else (bigdec_Exact.j0 k a0 a1 (decide (a1 > 1200)))) = some (r1, r2, r3) := h
 clear h
 have HC3 := Aside0.mk H
 clear H
 go_enter Tryz.func29, Tryz.ntmps29
 go_upto_region 1 with (first | ((with_reducible refine gate_dst (N := 4) rfl ?_); refine box_event rfl (N := 4) rfl (cs := #[.string (⟨#[]⟩ : ByteArray), .int .i64 0]) (t := 42) gz ?_; intro gb152 hg w4 hbox hb; have GE152 := gN bz hg; have BK152 := Aside0.mk hbox; replace HB := bN bz hb; clear hb hbox hg))
 (try simp only [Act.put, List.setIfInBounds_toArray, List.set_cons_zero, List.set_cons_succ])
 go_cut [15] (fun v15 wc => ∃ (kq : Nat) (x15_2 : Bool), v15 = .bool x15_2 ∧ Aside0 (bigdec_Exact.j0 kq a0 a1 x15_2 = some (r1, r2, r3)) ∧ Aside0 (kq ≤ k) ∧ Aside0 (wc.heap[gb152]? = some (.cells #[.string (⟨#[]⟩ : ByteArray), .int .i64 0] 42 (0, 0))) ∧ Aside0 (Below w.heap.size w wc))
 case first =>
  have H := HC3.out
  clear HC3
  by_cases c5 : a1 < (-1200)
  ·replace H := hE H c5
   have c5b0 := decide_eq_true c5
   clear c5
   try rw [c5b0]
   have H' := Aside0.mk H
   clear H
   go_wp2
   go_meet
   case rel => exact ⟨_, (true), rz, H', ⟨by first | omega | exact Nat.le_refl _⟩, ⟨bk⟩, ⟨bz⟩⟩
  ·replace H := hN H c5
   have c5b0 := decide_eq_false c5
   clear c5
   try rw [c5b0]
   have H' := Aside0.mk H
   clear H
   go_wp2
   go_meet
   case rel => exact ⟨_, (decide (a1 > 1200)), rz, H', ⟨by first | omega | exact Nat.le_refl _⟩, ⟨bk⟩, ⟨bz⟩⟩
 case rest =>
  clear HC3
  try clear c5
  try clear c5b0
  obtain ⟨kq, x15_2, rfl, HA, HJ2, BK152, HB⟩ := hcut
  cases kq with
  | zero => exact absurd HA.out (by simp [bigdec_Exact.j0])
  | succ kj2 =>
   have H := HA.out
   clear HA
   simp only [bigdec_Exact.j0] at H
   by_cases c6 : x15_2 = true
   ·subst c6
    replace H := hT H
    simp only [Option.some.injEq, Prod.mk.injEq] at H
    obtain ⟨rfl, rfl, rfl⟩ := H
    obtain ⟨hcz7_0, hcz7_1, hfz7_0, hfz7_1⟩ := cz2 (W := wc) BK152
    go_wp2
    refine bodyPost_ret (results_ct rfl _ _ gb152 42 #[.string (⟨#[]⟩ : ByteArray), .int .i64 0] (0, 0) _ rfl bk Tryz.underlying42 rfl (by kernel_rfl)) rfl ?_
    exact ⟨ez, bz⟩
   ·replace c6 := Bool.eq_false_iff.mpr c6
    subst c6
    replace H := hF H
    obtain ⟨y153, hy153⟩ : ∃ y_ : List Int, y_ = (([Int.tmod a0 1000000000, Int.tmod (IntKind.u64.wrap (Int.tdiv a0 1000000000)) 1000000000, IntKind.u64.wrap (Int.tdiv (IntKind.u64.wrap (Int.tdiv a0 1000000000)) 1000000000)] : List Int)) := ⟨_, rfl⟩
    replace H : (if a1 < 0 then (bigdec_Exact.j1 kj2 (wrap64 (-a1)) y153 5 a1) else (bigdec_Exact.j1 kj2 a1 y153 2 0)) = some (r1, r2, r3) := by first | (rw [hy153]; with_reducible exact H) | (have H2_ := (Option.bind_some _ _).symm.trans H; rw [hy153]; with_reducible exact H2_) | (have H2_ := (Option.bind_some _ _).symm.trans H; with_reducible exact H2_) | with_reducible exact H | (rw [hy153]; exact H) | exact H
    have Ny153 := Aside0.mk hy153
    clear hy153
    have HC8 := Aside0.mk H
    clear H
    go_upto_if 27 with (first | ((with_reducible refine gate_dst (N := 25) rfl ?_); refine Kd.R_lit (Kd.int .u64) _ 22 ?hg (N := 25) ?hd (xs := ([Int.tmod a0 1000000000, Int.tmod (IntKind.u64.wrap (Int.tdiv a0 1000000000)) 1000000000, IntKind.u64.wrap (Int.tdiv (IntKind.u64.wrap (Int.tdiv a0 1000000000)) 1000000000)] : List Int)) (inner := [.int .u64 (Int.tmod a0 1000000000), .int .u64 (Int.tmod (IntKind.u64.wrap (Int.tdiv a0 1000000000)) 1000000000), .int .u64 (IntKind.u64.wrap (Int.tdiv (IntKind.u64.wrap (Int.tdiv a0 1000000000)) 1000000000))]) (ok := fun _ => True) (okp := fun _ => True) ?hr ?hp (fun _ hk => hk) trivial (Below.refl _ _) (Nat.le_refl _) (by simp) ?_; (case hd => rfl); (case hg => rfl); (case hr => first | (go_simp; done) | (go_simp; rfl)); (case hp => exact (Reps.one (show Kd.M (Kd.int .u64) _ _ _ (Int.tmod a0 1000000000) [.int .u64 (Int.tmod a0 1000000000)] from rfl) (Reps.one (show Kd.M (Kd.int .u64) _ _ _ (Int.tmod (IntKind.u64.wrap (Int.tdiv a0 1000000000)) 1000000000) [.int .u64 (Int.tmod (IntKind.u64.wrap (Int.tdiv a0 1000000000)) 1000000000)] from rfl) (Reps.one (show Kd.M (Kd.int .u64) _ _ _ (IntKind.u64.wrap (Int.tdiv (IntKind.u64.wrap (Int.tdiv a0 1000000000)) 1000000000)) [.int .u64 (IntKind.u64.wrap (Int.tdiv (IntKind.u64.wrap (Int.tdiv a0 1000000000)) 1000000000))] from rfl) (Reps.none _ _))))); intro v154 w9 ho10 hb hg_ hnew_; clear hg_ hnew_; (first | rw [← Ny153.out] at ho10 | (simp only [Int.reduceToNat] at ho10; rw [← Ny153.out] at ho10)); have n0_ := Aside0.mk (Kd.R_lower ho10 (below_size bz)); have n1_ := Aside0.mk (blk_below (g := gb152) (o := .cells #[.string (⟨#[]⟩ : ByteArray), .int .i64 0] 42 (0, 0)) bk hb); have n2_ := Aside0.mk (below_step bz hb); clear BK152; clear HB; have HO155 := n0_; have BK152 := n1_; have HB := n2_; clear n0_ n1_ n2_; clear hb ho10))
    (try simp only [Act.put, List.setIfInBounds_toArray, List.set_cons_zero, List.set_cons_succ])
    go_cut [1, 7, 8] (fun v1 v7 v8 wc => ∃ (kq : Nat) (x1_7 : Int) (x7_7 : Int) (x8_7 : Int), v1 = .int .i64 x1_7 ∧ v7 = .int .u64 x7_7 ∧ v8 = .int .i64 x8_7 ∧ Aside0 (bigdec_Exact.j1 kq x1_7 y153 x7_7 x8_7 = some (r1, r2, r3)) ∧ Aside0 (kq ≤ kj2) ∧ Aside0 (Kd.R (Kd.int .u64) 22 wc w.heap.size (fun _ => True) v154 y153) ∧ Aside0 (wc.heap[gb152]? = some (.cells #[.string (⟨#[]⟩ : ByteArray), .int .i64 0] 42 (0, 0))) ∧ Aside0 (Below w.heap.size w wc))
    case first =>
     have H := HC8.out
     clear HC8
     by_cases c11 : a1 < 0
     ·replace H := hE H c11
      have c11b0 := decide_eq_true c11
      clear c11
      try rw [c11b0]
      have H' := Aside0.mk H
      clear H
      go_wp2
      go_meet
      case rel => exact ⟨_, (wrap64 (-a1)), (5), (a1), rz, rz, rz, H', ⟨by have := HJ2.out; first | omega | exact Nat.le_refl _⟩, ⟨by (with_reducible repeat (first | apply Kd.R_alloc | apply Kd.R_drewN | apply Kd.R_drew)); exact HO155.out⟩, ⟨bk⟩, ⟨bz⟩⟩
     ·replace H := hN H c11
      have c11b0 := decide_eq_false c11
      clear c11
      try rw [c11b0]
      have H' := Aside0.mk H
      clear H
      go_wp2
      go_meet
      case rel => exact ⟨_, (a1), (2), (0), rz, rz, rz, H', ⟨by have := HJ2.out; first | omega | exact Nat.le_refl _⟩, ⟨by (with_reducible repeat (first | apply Kd.R_alloc | apply Kd.R_drewN | apply Kd.R_drew)); exact HO155.out⟩, ⟨bk⟩, ⟨bz⟩⟩
    case rest =>
     clear HC8
     try clear c5
     try clear c5b0
     try clear c6
     try clear c11
     try clear c11b0
     try clear hcz7_0 hcz7_1 hfz7_0 hfz7_1
     obtain ⟨kq, x1_7, x7_7, x8_7, rfl, rfl, rfl, HA, HJ7, HO_6, BK152, HB⟩ := hcut
     cases kq with
     | zero => exact absurd HA.out (by simp [bigdec_Exact.j1])
     | succ kj7 =>
      have H := HA.out
      clear HA
      simp only [bigdec_Exact.j1] at H
      have H' := Aside0.mk H
      clear H
      go_wp2
      go_loopg [1, 6] kj7 (fun kq v1 v6 w' => ∃ (x1_3 : Int) (x6_3 : List Int), v1 = .int .i64 x1_3 ∧ Aside0 (bigdec_Exact.l0 kq x1_3 x6_3 x7_7 x8_7 = some (r1, r2, r3)) ∧ Aside0 (kq ≤ kj7) ∧ Aside0 (Kd.R (Kd.int .u64) 22 w' w.heap.size (fun _ => True) v6 x6_3) ∧ Aside0 (w'.heap[gb152]? = some (.cells #[.string (⟨#[]⟩ : ByteArray), .int .i64 0] 42 (0, 0))) ∧ Aside0 (Below w.heap.size w w'))
      case atStart => exact ⟨(x1_7), (y153), rz, H', ⟨Nat.le_refl _⟩, ⟨by (with_reducible repeat (first | apply Kd.R_alloc | apply Kd.R_drewN | apply Kd.R_drew)); exact HO_6.out⟩, ⟨bk⟩, ⟨bz⟩⟩
      case round =>
       clear H'
       try clear c5
       try clear c5b0
       try clear c6
       try clear c11
       try clear c11b0
       try clear hcz7_0 hcz7_1 hfz7_0 hfz7_1
       obtain ⟨x1_3, x6_3, rfl, HA, HK3, HO_6, BK152, HB⟩ := hrel
       cases gk with
       | zero => exact absurd HA.out (by simp [bigdec_Exact.l0])
       | succ k3 =>
        have H := HA.out
        clear HA
        simp only [bigdec_Exact.l0] at H
        by_cases c12 : x1_3 ≥ 8
        ·replace H := hE H c12
         have c12b0 : decide (8 ≤ x1_3) = true := decide_eq_true c12
         clear c12
         replace H := bs H
         obtain ⟨t156, A13, H⟩ := H
         have H' := Aside0.mk H
         clear H
         obtain ⟨Ao14, co14, eo14⟩ := Kd.R_slice HO_6.out
         subst eo14
         go_wp2_with (first | ((with_reducible refine gate_callee (f := 47) rfl ?_); refine goesL_ (some 51) rfl rfl Tryz.func47 (by kernel_rfl) rfl #[.slice Ao14 x6_3.length co14, .int .u64 (IntKind.u64.wrap ((IntKind.u64.wrap ((IntKind.u64.wrap ((IntKind.u64.wrap ((IntKind.u64.wrap ((IntKind.u64.wrap ((IntKind.u64.wrap (x7_7 * x7_7)) * x7_7)) * x7_7)) * x7_7)) * x7_7)) * x7_7)) * x7_7))] rfl lz ?_; (with_reducible refine (bigdec_times.calls k3 (fun k_ => some k_ = (.slice Ao14 x6_3.length co14 : Value).ownBlock) (.slice Ao14 x6_3.length co14) x6_3 (IntKind.u64.wrap ((IntKind.u64.wrap ((IntKind.u64.wrap ((IntKind.u64.wrap ((IntKind.u64.wrap ((IntKind.u64.wrap ((IntKind.u64.wrap (x7_7 * x7_7)) * x7_7)) * x7_7)) * x7_7)) * x7_7)) * x7_7)) * x7_7)) t156 w _ ?side1 ?side2 A13.out).mono ?_); (case side1 => repeat (first | (with_reducible first | exact HB.out | apply below_alloc | apply pw_below_drewN | apply below_drew1 | refine below_set ?_ GE152.out) | exact HB.out)); (case side2 => exact Kd.R_tight rfl HO_6.out); rintro e w15 ⟨v157, rfl, ho0, hb, hkp⟩; refine ⟨_, rfl, ?_⟩; have n0_ := Aside0.mk (blk_kept bk hkp (fun hs_ => (fun e_ => (Kd.R_ne HO_6.out BK152.out (by decide)) e_) hs_)); have n1_ := Aside0.mk (Kd.R_mono (ok' := fun k_ => True) ho0 (fun k_ hk_ => trivial)); have n2_ := Aside0.mk (hb); clear BK152; clear HB; clear HO_6; have BK152 := n0_; have HO158 := n1_; have HB := n2_; clear n0_ n1_ n2_; (try clear hb); (try clear hkp); (try clear ho0)))
         go_roundg k3
         case measure => have := HJ2.out; have := HJ7.out; have := HK3.out; omega
         case rel => exact ⟨(wrap64 (x1_3 - 8)), (t156), rz, H', ⟨by have := HJ2.out; have := HJ7.out; have := HK3.out; omega⟩, ⟨by (with_reducible repeat (first | apply Kd.R_alloc | apply Kd.R_drewN | apply Kd.R_drew)); exact HO158.out⟩, ⟨bk⟩, ⟨bz⟩⟩
        ·replace H := hN H c12
         have c12b0 : decide (8 ≤ x1_3) = false := decide_eq_false c12
         clear c12
         have H' := Aside0.mk H
         clear H
         go_wp2
         go_loopg [1, 6] k3 (fun kq v1 v6 w' => ∃ (x1_4 : Int) (x6_4 : List Int), v1 = .int .i64 x1_4 ∧ Aside0 (bigdec_Exact.l1 kq x1_4 x6_4 x7_7 x8_7 = some (r1, r2, r3)) ∧ Aside0 (kq ≤ k3) ∧ Aside0 (Kd.R (Kd.int .u64) 22 w' w.heap.size (fun _ => True) v6 x6_4) ∧ Aside0 (w'.heap[gb152]? = some (.cells #[.string (⟨#[]⟩ : ByteArray), .int .i64 0] 42 (0, 0))) ∧ Aside0 (Below w.heap.size w w'))
         case atStart => exact ⟨(x1_3), (x6_3), rz, H', ⟨Nat.le_refl _⟩, ⟨by (with_reducible repeat (first | apply Kd.R_alloc | apply Kd.R_drewN | apply Kd.R_drew)); exact HO_6.out⟩, ⟨bk⟩, ⟨bz⟩⟩
         case round =>
          clear H'
          try clear c5
          try clear c5b0
          try clear c6
          try clear c11
          try clear c11b0
          try clear c12
          try clear c12b0
          try clear hcz7_0 hcz7_1 hfz7_0 hfz7_1
          obtain ⟨x1_4, x6_4, rfl, HA, HK4, HO_6, BK152, HB⟩ := hrel
          cases gk with
          | zero => exact absurd HA.out (by simp [bigdec_Exact.l1])
          | succ k4 =>
           have H := HA.out
           clear HA
           simp only [bigdec_Exact.l1] at H
           by_cases c16 : x1_4 > 0
           ·replace H := hE H c16
            have c16b0 : decide (0 < x1_4) = true := decide_eq_true c16
            clear c16
            replace H := bs H
            obtain ⟨t159, A17, H⟩ := H
            have H' := Aside0.mk H
            clear H
            obtain ⟨Ao18, co18, eo18⟩ := Kd.R_slice HO_6.out
            subst eo18
            go_wp2_with (first | ((with_reducible refine gate_callee (f := 47) rfl ?_); refine goesL_ (some 58) rfl rfl Tryz.func47 (by kernel_rfl) rfl #[.slice Ao18 x6_4.length co18, .int .u64 x7_7] rfl lz ?_; (with_reducible refine (bigdec_times.calls k4 (fun k_ => some k_ = (.slice Ao18 x6_4.length co18 : Value).ownBlock) (.slice Ao18 x6_4.length co18) x6_4 x7_7 t159 w _ ?side1 ?side2 A17.out).mono ?_); (case side1 => repeat (first | (with_reducible first | exact HB.out | apply below_alloc | apply pw_below_drewN | apply below_drew1 | refine below_set ?_ GE152.out) | exact HB.out)); (case side2 => exact Kd.R_tight rfl HO_6.out); rintro e w19 ⟨v160, rfl, ho0, hb, hkp⟩; refine ⟨_, rfl, ?_⟩; have n0_ := Aside0.mk (blk_kept bk hkp (fun hs_ => (fun e_ => (Kd.R_ne HO_6.out BK152.out (by decide)) e_) hs_)); have n1_ := Aside0.mk (Kd.R_mono (ok' := fun k_ => True) ho0 (fun k_ hk_ => trivial)); have n2_ := Aside0.mk (hb); clear BK152; clear HB; clear HO_6; have BK152 := n0_; have HO161 := n1_; have HB := n2_; clear n0_ n1_ n2_; (try clear hb); (try clear hkp); (try clear ho0)))
            go_roundg k4
            case measure => have := HJ2.out; have := HJ7.out; have := HK3.out; have := HK4.out; omega
            case rel => exact ⟨(wrap64 (x1_4 - 1)), (t159), rz, H', ⟨by have := HJ2.out; have := HJ7.out; have := HK3.out; have := HK4.out; omega⟩, ⟨by (with_reducible repeat (first | apply Kd.R_alloc | apply Kd.R_drewN | apply Kd.R_drew)); exact HO161.out⟩, ⟨bk⟩, ⟨bz⟩⟩
           ·replace H := hN H c16
            have c16b0 : decide (0 < x1_4) = false := decide_eq_false c16
            clear c16
            replace H := bs H
            obtain ⟨t162, A20, H⟩ := H
            replace H := bs H
            obtain ⟨⟨t163, t164⟩, A21, H⟩ := H
            dsimp only at H
            simp only [Option.some.injEq, Prod.mk.injEq] at H
            obtain ⟨rfl, rfl, rfl⟩ := H
            obtain ⟨Ao22, co22, eo22⟩ := Kd.R_slice HO_6.out
            subst eo22
            go_wp2_with (first | ((with_reducible refine gate_callee (f := 48) rfl ?_); refine goesL_ (some 60) rfl rfl Tryz.func48 (by kernel_rfl) rfl #[.slice Ao22 x6_4.length co22] rfl lz ?_; (with_reducible refine (bigdec_text.calls k4 _ _ x6_4 t162 _ ?side1 ?side2 A20.out).mono ?_); (case side1 => repeat (first | exact (Kd.R_reads' HO_6.out).2.2 | (with_reducible refine Kd.C_alloc ?_ _) | (with_reducible refine Kd.C_drewN ?_ _) | (with_reducible refine Kd.C_drew ?_))); (case side2 => exact (Kd.R_reads' HO_6.out).2.1); rintro e w23 ⟨rfl, hb⟩; refine ⟨_, rfl, ?_⟩; have n0_ := Aside0.mk (Kd.R_below (by (with_reducible repeat (first | apply Kd.R_alloc | apply Kd.R_drewN | apply Kd.R_drew)); exact HO_6.out) hb); have n1_ := Aside0.mk (blk_below (g := gb152) (o := .cells #[.string (⟨#[]⟩ : ByteArray), .int .i64 0] 42 (0, 0)) bk hb); have n2_ := Aside0.mk (below_step bz hb); clear HO_6; clear BK152; clear HB; have HO_6 := n0_; have BK152 := n1_; have HB := n2_; clear n0_ n1_ n2_; (try clear hb); (try clear hb2); (try clear hk); (try clear hi)) | ((with_reducible refine gate_callee (f := 49) rfl ?_); refine goesL_ (some 67) rfl rfl Tryz.func49 (by kernel_rfl) rfl #[.agg #[.string t162, .int .i64 (wrap64 ((t162.size : Int) + x8_7))]] rfl lz ?_; (with_reducible refine (bigdec_form.calls t162 (wrap64 ((t162.size : Int) + x8_7)) t163 t164 _ A21.out).mono ?_); rintro e w24 ⟨rfl, hb⟩; refine ⟨_, rfl, ?_⟩; have n0_ := Aside0.mk (Kd.R_below (by (with_reducible repeat (first | apply Kd.R_alloc | apply Kd.R_drewN | apply Kd.R_drew)); exact HO_6.out) hb); have n1_ := Aside0.mk (blk_below (g := gb152) (o := .cells #[.string (⟨#[]⟩ : ByteArray), .int .i64 0] 42 (0, 0)) bk hb); have n2_ := Aside0.mk (below_step bz hb); clear HO_6; clear BK152; clear HB; have HO_6 := n0_; have BK152 := n1_; have HB := n2_; clear n0_ n1_ n2_; (try clear hb); (try clear hb2); (try clear hk); (try clear hi); obtain ⟨hcz25_0, hcz25_1, hfz25_0, hfz25_1⟩ := cz2 (W := w24) BK152))
            refine bodyPost_ret (results_ct rfl _ _ gb152 42 #[.string t163, .int .i64 t164] (0, 0) _ rfl bk Tryz.underlying42 rfl (by kernel_rfl)) rfl ?_
            exact ⟨ez, bz⟩
end Go.Proofs.YtecpgdfnamkfdaaGreatDoor.Fn
end
section
namespace Go.Proofs.YtecpgdfnamkfdaaGreatDoor.Pure
open Go.RowKit Go.Proofs.YtecpgdfnamkfdaaGreatDoorW.PrintWords Go.Proofs.YtecpgdfnamkfdaaGreatDoor.Fn
set_option linter.unusedVariables false
set_option linter.unusedSimpArgs false
theorem times_l1 (xs : List Int) (c : Nat) (hc : c < 1000000000) (hl : xs.length ≤ 100000) : Ev (fun k => bigdec_times.l1 k xs (c : Int)) (xs ++ if c = 0 then [] else [(c : Int)]) := by
  have base : ∀ ys : List Int, Ev (fun k => bigdec_times.l1 k ys ((0 : Nat) : Int)) ys := fun ys => Ev.step (f := fun _ => some ys) (fun k => by simp only [bigdec_times.l1]; rw [if_neg (by omega)]) (Ev.now _)
  by_cases h : c = 0
  · rw [if_pos h, h, List.append_nil]; exact base xs
  · rw [if_neg h]
    refine Ev.step (f := fun k => bigdec_times.l1 k (xs ++ [(c : Int)]) ((0 : Nat) : Int)) (fun k => ?_) (base _)
    simp only [bigdec_times.l1]
    rw [if_pos (by omega), if_pos (by omega), tmod_id (by omega), tdiv_id (by omega)]
    have e1 : (c : Int) % 1000000000 = c := by omega
    have e2 : (c : Int) / 1000000000 = ((0 : Nat) : Int) := by omega
    rw [e1, e2]
    rfl
theorem times_l0 (by_ : Nat) (hby : by_ ≤ 400000) : ∀ (rest : List Int) (done : List Int) (c n : Nat), n = done.length + rest.length → n ≤ 50000 → InB 1000000000 rest → c ≤ by_ →
    Ev (fun k => bigdec_times.l0 k (done ++ rest) (by_ : Int) (c : Int) (n : Int) (done.length : Int)) (done ++ mulGo 1000000000 by_ rest c) := by
  intro rest
  induction rest with
  | nil =>
    intro done c n hn hs _ hc
    refine Ev.step (f := fun k => bigdec_times.l1 k done (c : Int)) (fun k => ?_) (times_l1 done c (by omega) (by simp at hn; omega))
    simp only [bigdec_times.l0]
    simp only [List.length_nil] at hn
    rw [if_neg (by omega), List.append_nil]
  | cons x rest ih =>
    intro done c n hn hs hin hc
    have hx := hin.cons.1
    simp only [List.length_cons] at hn
    have hcar := carry_le (B := 1000000000) (x := x.toNat) (by omega) hc (by omega)
    have hxm : x.toNat * by_ ≤ 1000000000 * 400000 := Nat.mul_le_mul (by omega) hby
    have hxe : x = (x.toNat : Int) := by omega
    have := ih (done ++ [(((x.toNat * by_ + c) % 1000000000 : Nat) : Int)]) ((x.toNat * by_ + c) / 1000000000) n (by simp; omega) hs hin.cons.2 hcar
    unfold mulGo
    rw [List.append_assoc, List.append_assoc] at this
    simp only [List.singleton_append] at this
    refine Ev.step (f := fun k => bigdec_times.l0 k (done ++ (((x.toNat * by_ + c) % 1000000000 : Nat) : Int) :: rest) (by_ : Int) (((x.toNat * by_ + c) / 1000000000 : Nat) : Int) (n : Int) ((done ++ [(((x.toNat * by_ + c) % 1000000000 : Nat) : Int)]).length : Int)) (fun k => ?_) this
    simp only [bigdec_times.l0]
    have em : (IntKind.u64.wrap ((IntKind.u64.wrap ((rd (done ++ x :: rest) (done.length : Int)) * (by_ : Int))) + (c : Int))) = ((x.toNat * by_ + c : Nat) : Int) := by
      rw [rd_mid, hxe]
      have h1 : (x.toNat : Int) * (by_ : Int) = ((x.toNat * by_ : Nat) : Int) := by omega
      rw [Int.toNat_natCast, h1, u64_id (x := ((x.toNat * by_ : Nat) : Int)) (by omega) (by omega), u64_id (by omega) (by omega)]
      omega
    rw [if_pos (by omega), if_pos (by omega), if_pos (by rw [List.length_append, List.length_cons]; omega), em, tmod_id (by omega), tdiv_id (by omega), Int.toNat_natCast, set_mid]
    have e1 : (((x.toNat * by_ + c : Nat) : Int) % 1000000000) = (((x.toNat * by_ + c) % 1000000000 : Nat) : Int) := by omega
    have e2 : (((x.toNat * by_ + c : Nat) : Int) / 1000000000) = (((x.toNat * by_ + c) / 1000000000 : Nat) : Int) := by omega
    rw [e1, e2, u64_id (by omega) (by omega), wrap_id (by omega) (by omega)]
    congr 1
    simp
theorem times_eq (xs : List Int) (by_ : Nat) (hby : by_ ≤ 400000) (hin : InB 1000000000 xs) (hl : xs.length ≤ 50000) : Ev (fun k => bigdec_times.f k xs (by_ : Int)) (mulGo 1000000000 by_ xs 0) := by
  have := times_l0 by_ hby xs [] 0 xs.length (by simp) hl hin (by omega)
  simpa [bigdec_times.f] using this
theorem trimmed_eq : ∀ (n : Nat) (l : List Int), l.length = n → n ≤ 100000 → ∃ l', Ev (fun k => bigdec_trimmed_uint64.f k l) l' ∧ lv 1000000000 l' = lv 1000000000 l ∧ l'.length ≤ l.length ∧ ∀ x ∈ l', x ∈ l := by
  intro n
  induction n with
  | zero =>
    intro l hl _
    refine ⟨l, Ev.step (f := fun _ => some l) (fun k => ?_) (Ev.now _), rfl, Nat.le_refl _, fun x h => h⟩
    simp only [bigdec_trimmed_uint64.f, bigdec_trimmed_uint64.l0]
    rw [if_neg (by omega)]
  | succ n ih =>
    intro l hl hn
    obtain ⟨t, c, rfl⟩ : ∃ t c, l = t ++ [c] := by
      rcases List.eq_nil_or_concat l with h | ⟨t, c, h⟩
      · rw [h] at hl; cases hl
      · exact ⟨t, c, by rw [h, List.concat_eq_append]⟩
    have htl : t.length = n := by simpa using hl
    have hw : wrap64 (((t ++ [c]).length : Int) - 1) = (t.length : Int) := by rw [wrap_id (by omega) (by omega)]; omega
    have hrd : rd (t ++ [c]) (t.length : Int) = c := rd_mid t c []
    by_cases h : c = 0
    · obtain ⟨l', h1, h2, h3, h4⟩ := ih t htl (by omega)
      refine ⟨l', Ev.step (f := fun k => bigdec_trimmed_uint64.f k t) (fun k => ?_) h1, by rw [h2, lv_append, h]; simp [lv], by simp; omega, fun x hx => List.mem_append_left _ (h4 x hx)⟩
      simp only [bigdec_trimmed_uint64.f, bigdec_trimmed_uint64.l0]
      rw [if_pos (by omega), hw, if_pos (by omega), if_pos (by omega), hrd, if_pos h, if_pos (by omega)]
      simp
    · refine ⟨t ++ [c], Ev.step (f := fun _ => some (t ++ [c])) (fun k => ?_) (Ev.now _), rfl, Nat.le_refl _, fun x hx => hx⟩
      simp only [bigdec_trimmed_uint64.f, bigdec_trimmed_uint64.l0]
      rw [if_pos (by omega), hw, if_pos (by omega), if_pos (by omega), hrd, if_neg h]
def b9 (x : Nat) : List UInt8 :=
  [ch (x / 10 / 10 / 10 / 10 / 10 / 10 / 10 / 10 % 10), ch (x / 10 / 10 / 10 / 10 / 10 / 10 / 10 % 10), ch (x / 10 / 10 / 10 / 10 / 10 / 10 % 10), ch (x / 10 / 10 / 10 / 10 / 10 % 10),
   ch (x / 10 / 10 / 10 / 10 % 10), ch (x / 10 / 10 / 10 % 10), ch (x / 10 / 10 % 10), ch (x / 10 % 10), ch (x % 10)]
theorem val_b9 {x : Nat} (h : x < 1000000000) : val (b9 x) = x := by
  unfold b9 val
  simp only [List.foldl_cons, List.foldl_nil]
  rw [dig_ch (by omega), dig_ch (by omega), dig_ch (by omega), dig_ch (by omega), dig_ch (by omega), dig_ch (by omega), dig_ch (by omega), dig_ch (by omega), dig_ch (by omega)]
  omega
theorem all_b9 (x : Nat) : AllD (b9 x) := by
  intro c hc
  unfold b9 at hc
  simp only [List.mem_cons, List.not_mem_nil, or_false] at hc
  rcases hc with rfl | rfl | rfl | rfl | rfl | rfl | rfl | rfl | rfl <;> (rw [ch_toNat (by omega)]; omega)
theorem limb9_b9 {x : Int} (h0 : 0 ≤ x) : (limb9 x).map (fun n => UInt8.ofNat n.toNat) = b9 x.toNat := by
  obtain ⟨n, rfl⟩ := Int.eq_ofNat_of_zero_le h0
  unfold limb9 b9 ch
  simp only [List.map_cons, List.map_nil, Int.toNat_natCast]
  congr 2 <;> omega
theorem limbs_text {l : List Int} (h : InB 1000000000 l) : val (L (strOfNums (limbsText l))) = lv 1000000000 l ∧ AllD (L (strOfNums (limbsText l))) := by
  rw [L_strOfNums]
  induction l with
  | nil => exact ⟨rfl, AllD.nil⟩
  | cons x l ih =>
    have hx := h.cons.1
    obtain ⟨h1, h2⟩ := ih h.cons.2
    have e : limbsText (x :: l) = limbsText l ++ limb9 x := by
      unfold limbsText
      rw [List.reverse_cons, List.map_append, List.flatten_append]
      simp
    rw [e, List.map_append, limb9_b9 hx.1]
    refine ⟨?_, h2.append (all_b9 _)⟩
    rw [val_append, h1, val_b9 (by omega), lv]
    have : (b9 x.toNat).length = 9 := rfl
    rw [this]
    omega
theorem text_eq (l : List Int) (h : InB 1000000000 l) (hl : l.length ≤ 100000) : Ev (fun k => bigdec_text.f k l) (S (digs (lv 1000000000 l))) := by
  obtain ⟨l', h1, h2, h3, h4⟩ := trimmed_eq l.length l rfl hl
  have h5 : InB 1000000000 l' := fun x hx => h x (h4 x hx)
  obtain ⟨h6, h7⟩ := limbs_text h5
  unfold bigdec_text.f
  refine Ev.congr (f := fun k => (bigdec_trimmed_uint64.f k l).bind ((fun (_ : Nat) (lx : List Int) => if lx.length ≤ l.length ∧ ∀ x ∈ lx, 0 ≤ x ∧ x ≤ 999999999 then strings_TrimLeft.f (strOfNums (limbsText lx)) ⟨#[48]⟩ else none) k)) (fun k => ?_) (Ev.bind h1 ?_)
  · rw [if_pos ⟨hl, fun x hx => by have := h x hx; omega⟩]
  · refine Ev.congr (fun k => ?_) (Ev.now _)
    show (if l'.length ≤ l.length ∧ ∀ x ∈ l', 0 ≤ x ∧ x ≤ 999999999 then strings_TrimLeft.f (strOfNums (limbsText l')) ⟨#[48]⟩ else none) = some (S (digs (lv 1000000000 l)))
    rw [if_pos ⟨h3, fun x hx => by have := h5 x hx; omega⟩, trimL, dz_eq h7, h6, h2]
def eLim (e : Int) : Int := if e < 0 then e else 0
def eBase (e : Int) : Nat := if e < 0 then 5 else 2
def exactS (m : Nat) (e : Int) : ByteArray × Int × Int :=
  if e < -1200 ∨ 1200 < e then (⟨#[]⟩, 0, 1) else ((decS (decOf (m * eBase e ^ e.natAbs) (eLim e))).1, (decS (decOf (m * eBase e ^ e.natAbs) (eLim e))).2, 0)
theorem exact_end (l : List Int) (pt : Int) (h : InB 1000000000 l) (hl : l.length ≤ 20000) (hp : -5000 ≤ pt ∧ pt ≤ 5000) :
    Ev (fun k => (bigdec_text.f k l).bind fun t => (bigdec_form.f t (wrap64 ((t.size : Int) + pt))).bind fun bt => some (bt.1, bt.2, (0 : Int))) ((decS (decOf (lv 1000000000 l) pt)).1, (decS (decOf (lv 1000000000 l) pt)).2, 0) := by
  refine Ev.bind (text_eq l h (by omega)) (Ev.congr (fun k => ?_) (Ev.now _))
  have hlt := lv_lt h
  have hd : (digs (lv 1000000000 l)).length ≤ 9 * l.length := digs_len _ _ (by rw [Nat.pow_mul]; exact hlt)
  generalize lv 1000000000 l = n at hd ⊢
  rw [size_S, wrap_id (by omega) (by omega), form_eq _ _ (by rw [size_S]; omega) (by omega) (by omega), L_S, formL_eq (allD_digs n), val_digs, Option.bind_some]
  have : ((digs n).length : Int) + pt - ((digs n).length : Int) = pt := by omega
  rw [this]
theorem exact_l1 (b : Nat) (hb : b = 2 ∨ b = 5) (pt : Int) (hp : -5000 ≤ pt ∧ pt ≤ 5000) : ∀ (e : Nat) (l : List Int), InB 1000000000 l → l.length + e ≤ 20000 →
    Ev (fun k => bigdec_Exact.l1 k (e : Int) l (b : Int) pt) ((decS (decOf (lv 1000000000 l * b ^ e) pt)).1, (decS (decOf (lv 1000000000 l * b ^ e) pt)).2, 0) := by
  intro e
  induction e with
  | zero =>
    intro l h hl
    rw [Nat.pow_zero, Nat.mul_one]
    refine Ev.step (fun k => ?_) (exact_end l pt h (by omega) hp)
    simp only [bigdec_Exact.l1]
    rw [if_neg (by omega)]
  | succ e ih =>
    intro l h hl
    have hb5 : b ≤ 5 := by omega
    have h1 := times_eq l b (by omega) h (by omega)
    have h2 := ih (mulGo 1000000000 b l 0) (mulGo_in (by omega) l 0 h (by omega)) (by have := mulGo_len (B := 1000000000) (by_ := b) l 0; omega)
    rw [mulGo_val0 (by omega), Nat.mul_assoc, ← Nat.pow_succ'] at h2
    refine Ev.step (fun k => ?_) (Ev.bind (f := fun k t => bigdec_Exact.l1 k (e : Int) t (b : Int) pt) h1 h2)
    simp only [bigdec_Exact.l1]
    rw [if_pos (by omega)]
    have : wrap64 (((e + 1 : Nat) : Int) - 1) = (e : Int) := by rw [wrap_id (by omega) (by omega)]; omega
    rw [this]
theorem pow8 (b : Nat) (hb : b = 2 ∨ b = 5) : (IntKind.u64.wrap ((IntKind.u64.wrap ((IntKind.u64.wrap ((IntKind.u64.wrap ((IntKind.u64.wrap ((IntKind.u64.wrap ((IntKind.u64.wrap ((b : Int) * b)) * b)) * b)) * b)) * b)) * b)) * b)) = ((b ^ 8 : Nat) : Int) := by
  rcases hb with rfl | rfl <;> rfl
theorem exact_l0 (b : Nat) (hb : b = 2 ∨ b = 5) (pt : Int) (hp : -5000 ≤ pt ∧ pt ≤ 5000) : ∀ (e : Nat) (l : List Int), InB 1000000000 l → l.length + e ≤ 20000 →
    Ev (fun k => bigdec_Exact.l0 k (e : Int) l (b : Int) pt) ((decS (decOf (lv 1000000000 l * b ^ e) pt)).1, (decS (decOf (lv 1000000000 l * b ^ e) pt)).2, 0) := by
  intro e
  induction e using Nat.strongRecOn with
  | _ e ih =>
    intro l h hl
    have hb8 : b ^ 8 ≤ 390625 := by rcases hb with rfl | rfl <;> decide
    by_cases he : e ≥ 8
    · have h1 := times_eq l (b ^ 8) (by omega) h (by omega)
      have h2 := ih (e - 8) (by omega) (mulGo 1000000000 (b ^ 8) l 0) (mulGo_in (by omega) l 0 h (by omega)) (by have := mulGo_len (B := 1000000000) (by_ := b ^ 8) l 0; omega)
      rw [mulGo_val0 (by omega), Nat.mul_assoc, ← Nat.pow_add, show 8 + (e - 8) = e by omega] at h2
      refine Ev.step (fun k => ?_) (Ev.bind (f := fun k t => bigdec_Exact.l0 k ((e - 8 : Nat) : Int) t (b : Int) pt) h1 h2)
      simp only [bigdec_Exact.l0]
      rw [if_pos (by omega), pow8 b hb]
      have : wrap64 ((e : Int) - 8) = ((e - 8 : Nat) : Int) := by rw [wrap_id (by omega) (by omega)]; omega
      rw [this]
    · refine Ev.step (fun k => ?_) (exact_l1 b hb pt hp e l h hl)
      simp only [bigdec_Exact.l0]
      rw [if_neg (by omega)]
theorem exact_eq (m : Nat) (e : Int) (hm : m < 18446744073709551616) : Ev (fun k => bigdec_Exact.f k (m : Int) e) (exactS m e) := by
  unfold exactS
  by_cases h1 : e < -1200
  · rw [if_pos (.inl h1)]
    refine Ev.congr (f := fun k => bigdec_Exact.j0 k (m : Int) e true) (fun k => ?_) (Ev.step (f := fun _ => some ((⟨#[]⟩ : ByteArray), (0 : Int), (1 : Int))) (fun k => rfl) (Ev.now _))
    unfold bigdec_Exact.f
    rw [if_pos h1]
  · by_cases h2 : 1200 < e
    · rw [if_pos (.inr h2)]
      refine Ev.congr (f := fun k => bigdec_Exact.j0 k (m : Int) e true) (fun k => ?_) (Ev.step (f := fun _ => some ((⟨#[]⟩ : ByteArray), (0 : Int), (1 : Int))) (fun k => rfl) (Ev.now _))
      unfold bigdec_Exact.f
      rw [if_neg h1, decide_eq_true (by omega)]
    · rw [if_neg (by omega)]
      have hin : InB 1000000000 [((m % 1000000000 : Nat) : Int), ((m / 1000000000 % 1000000000 : Nat) : Int), ((m / 1000000000 / 1000000000 : Nat) : Int)] :=
        InB.mk ⟨by omega, by omega⟩ (InB.mk ⟨by omega, by omega⟩ (InB.mk ⟨by omega, by omega⟩ (InB.nil _)))
      have hv : lv 1000000000 [((m % 1000000000 : Nat) : Int), ((m / 1000000000 % 1000000000 : Nat) : Int), ((m / 1000000000 / 1000000000 : Nat) : Int)] = m := by
        simp only [lv, Int.toNat_natCast]
        omega
      have key := exact_l0 (eBase e) (by unfold eBase; split <;> omega) (eLim e) (by unfold eLim; split <;> omega) e.natAbs _ hin (by simp; omega)
      rw [hv] at key
      have hl : ([Int.tmod (m : Int) 1000000000, Int.tmod (IntKind.u64.wrap (Int.tdiv (m : Int) 1000000000)) 1000000000, IntKind.u64.wrap (Int.tdiv (IntKind.u64.wrap (Int.tdiv (m : Int) 1000000000)) 1000000000)] : List Int) = [((m % 1000000000 : Nat) : Int), ((m / 1000000000 % 1000000000 : Nat) : Int), ((m / 1000000000 / 1000000000 : Nat) : Int)] := by
        rw [tmod_id (by omega), tdiv_id (by omega), u64_id (by omega) (by omega), tmod_id (by omega), tdiv_id (by omega), u64_id (by omega) (by omega)]
        congr 2
      refine Ev.congr (f := fun k => bigdec_Exact.j0 k (m : Int) e false) (fun k => ?_) (Ev.step (f := fun k => bigdec_Exact.j1 k (e.natAbs : Int) [((m % 1000000000 : Nat) : Int), ((m / 1000000000 % 1000000000 : Nat) : Int), ((m / 1000000000 / 1000000000 : Nat) : Int)] (eBase e : Int) (eLim e)) (fun k => ?_) (Ev.step (fun k => rfl) key))
      · unfold bigdec_Exact.f
        rw [if_neg h1, decide_eq_false (by omega)]
      · simp only [bigdec_Exact.j0]
        rw [if_neg (by simp), hl, Option.bind_some]
        unfold eBase eLim
        by_cases h3 : e < 0
        · rw [if_pos h3, if_pos h3, if_pos h3, wrap_id (by omega) (by omega)]
          have : (-e : Int) = (e.natAbs : Int) := by omega
          rw [this]; rfl
        · rw [if_neg h3, if_neg h3, if_neg h3]
          have : (e : Int) = (e.natAbs : Int) := by omega
          rw [← this]; rfl
end Go.Proofs.YtecpgdfnamkfdaaGreatDoor.Pure
end
section
namespace Go.Proofs.YtecpgdfnamkfdaaGreatDoor.Pure
open Go.RowKit Go.Proofs.YtecpgdfnamkfdaaGreatDoorW.PrintWords Go.Proofs.YtecpgdfnamkfdaaGreatDoor.Fn
set_option linter.unusedVariables false
set_option linter.unusedSimpArgs false
def sumD (a : List UInt8) (p : Int) (b : List UInt8) (q : Int) : List UInt8 × Int :=
  decOf (sv a p (min (p - a.length) (q - b.length)) + sv b q (min (p - a.length) (q - b.length))) (min (p - a.length) (q - b.length))
theorem sumD_at {a b : List UInt8} {p q E : Int} (h1 : E ≤ p - a.length) (h2 : E ≤ q - b.length) : sumD a p b q = decOf (sv a p E + sv b q E) E := by
  unfold sumD
  obtain ⟨k, hk⟩ : ∃ k : Nat, E = min (p - (a.length : Int)) (q - b.length) - k := ⟨(min (p - (a.length : Int)) (q - b.length) - E).toNat, by omega⟩
  rw [hk, sv_lower a p _ (by omega), sv_lower b q _ (by omega), ← Nat.add_mul, decOf_scale]
theorem sumD_comm (a : List UInt8) (p : Int) (b : List UInt8) (q : Int) : sumD a p b q = sumD b q a p := by
  rw [sumD_at (a := a) (b := b) (E := min (p - (a.length : Int)) (q - b.length)) (by omega) (by omega), sumD_at (a := b) (b := a) (E := min (p - (a.length : Int)) (q - b.length)) (by omega) (by omega), Nat.add_comm]
theorem sumD_nil_left {b : List UInt8} {q : Int} (hb : InForm b q) (p : Int) : sumD [] p b q = (b, q) := by
  rw [sumD_at (E := min (p - (([] : List UInt8).length : Int)) (q - b.length)) (by omega) (by omega)]
  have : sv [] p (min (p - (([] : List UInt8).length : Int)) (q - b.length)) = 0 := by unfold sv; rw [val_nil, Nat.zero_mul]
  rw [this, Nat.zero_add, decOf_sv hb (by omega)]
theorem sumD_nil_right {a : List UInt8} {p : Int} (ha : InForm a p) (q : Int) : sumD a p [] q = (a, p) := by rw [sumD_comm, sumD_nil_left ha]
theorem sum_step {A B v c m : Nat} (h : v + c * 10 ^ m = A % 10 ^ m + B % 10 ^ m) :
    v + (c + A / 10 ^ m % 10 + B / 10 ^ m % 10) % 10 * 10 ^ m + (c + A / 10 ^ m % 10 + B / 10 ^ m % 10) / 10 * 10 ^ (m + 1) = A % 10 ^ (m + 1) + B % 10 ^ (m + 1) := by
  have e1 := Nat.mod_pow_succ (x := A) (b := 10) (k := m)
  have e2 := Nat.mod_pow_succ (x := B) (b := 10) (k := m)
  rw [e1, e2]
  generalize hs : c + A / 10 ^ m % 10 + B / 10 ^ m % 10 = s
  have hd := Nat.div_add_mod s 10
  have e3 : s / 10 * 10 ^ (m + 1) = 10 * (s / 10) * 10 ^ m := by rw [Nat.pow_succ, Nat.mul_comm (10 ^ m) 10, ← Nat.mul_assoc, Nat.mul_comm (s / 10) 10]
  rw [e3]
  have e4 : s % 10 * 10 ^ m + 10 * (s / 10) * 10 ^ m = s * 10 ^ m := by rw [← Nat.add_mul]; congr 1; omega
  have e5 : s * 10 ^ m = c * 10 ^ m + 10 ^ m * (A / 10 ^ m % 10) + 10 ^ m * (B / 10 ^ m % 10) := by rw [← hs, Nat.add_mul, Nat.add_mul, Nat.mul_comm (A / 10 ^ m % 10), Nat.mul_comm (B / 10 ^ m % 10)]
  omega
def toI (l : List UInt8) : List Int := l.map fun b => (b.toNat : Int)
theorem toI_append (a b : List UInt8) : toI (a ++ b) = toI a ++ toI b := List.map_append
theorem toI_length (a : List UInt8) : (toI a).length = a.length := List.length_map _
theorem bytesOf_S (l : List UInt8) : bytesOf (S l) = toI l := rfl
theorem strOf_toI (l : List UInt8) : strOfNums (toI l) = S l := by
  rw [← S_L (strOfNums (toI l)), L_strOfNums]
  congr 1
  unfold toI
  rw [List.map_map]
  have : List.map ((fun n : Int => UInt8.ofNat n.toNat) ∘ fun b : UInt8 => (b.toNat : Int)) l = List.map id l := by
    apply List.map_congr_left
    intro c _
    simp [Function.comp]
  rw [this, List.map_id]
theorem fill_l0 (A : ByteArray) (p : Int) (B : ByteArray) (q : Int) (n : Nat) (hn : n ≤ 100000) (h2 : 2 ≤ n) (hA : A.size + 1 ≤ n) (r : ByteArray × Int × Int)
    (h : Ev (fun k => bigdec_Add.j2 k (cpyAt (List.replicate n 48) 1 A) A p B q) r) :
    ∀ (d i : Nat), i + d = n → Ev (fun k => bigdec_Add.l0 k (List.replicate i 48 ++ List.replicate d 0) (n : Int) (i : Int) A p B q) r := by
  intro d
  induction d with
  | zero =>
    intro i hi
    refine Ev.step (fun k => ?_) h
    have e : i = n := by omega
    subst e
    simp only [bigdec_Add.l0]
    rw [if_neg (by omega), List.replicate_zero, List.append_nil, if_pos (by rw [List.length_replicate]; omega), if_pos (by rw [List.length_replicate]; omega), if_pos (by rw [List.length_replicate]; omega)]
  | succ d ih =>
    intro i hi
    refine Ev.step (fun k => ?_) (ih (i + 1) (by omega))
    simp only [bigdec_Add.l0]
    have e : (List.replicate i (48 : Int) ++ List.replicate (d + 1) 0).set i 48 = List.replicate (i + 1) 48 ++ List.replicate d 0 := by
      have := set_mid (List.replicate i (48 : Int)) 0 48 (List.replicate d 0)
      rw [List.length_replicate] at this
      rw [List.replicate_succ, this, List.replicate_succ' (n := i)]
      simp
    rw [if_pos (by omega), if_pos (by omega), if_pos (by simp; omega), Int.toNat_natCast, e, wrap_id (by omega) (by omega)]
    rfl
theorem add_l1 {a b : List UInt8} {p q E : Int} {n : Nat} (orig : List UInt8) (ho : AllD orig) (hol : orig.length = n) (hn : (n : Int) = p + 1 - E) (hov : val orig = sv a p E) (ha : AllD a) (hb : AllD b)
    (h1 : E ≤ p - a.length) (h2 : E ≤ q - b.length) (hqp : q ≤ p)
    (hba : a.length ≤ 4000 ∧ -10000 ≤ p ∧ p ≤ 10000) (hbb : b.length ≤ 4000 ∧ -10000 ≤ q ∧ q ≤ 10000) (hE : -20000 ≤ E) (hEp : E < p) :
    ∀ (j : Nat) (done : List UInt8) (c : Nat), j + done.length = n → AllD done → c ≤ 1 → val done + c * 10 ^ done.length = sv a p E % 10 ^ done.length + sv b q E % 10 ^ done.length →
      Ev (fun k => bigdec_Add.l1 k (toI (orig.take j) ++ toI done) (c : Int) ((j : Int) - 1) (S a) p (S b) q)
        (if (decOf (sv a p E + sv b q E) E).1.length > 2000 then ((⟨#[]⟩ : ByteArray), 0, 2) else ((decS (decOf (sv a p E + sv b q E) E)).1, (decS (decOf (sv a p E + sv b q E) E)).2, 0)) := by
  intro j
  induction j with
  | zero =>
    intro done c hd hin hc hv
    have hla := sv_lt ha h1
    have hlb := sv_lt hb h2
    have hA : 10 ^ (p - E).toNat ≤ 10 ^ (done.length - 1) := Nat.pow_le_pow_right (by omega) (by omega)
    have hB : 10 ^ (q - E).toNat ≤ 10 ^ (done.length - 1) := Nat.pow_le_pow_right (by omega) (by omega)
    have hpw : 10 ^ done.length = 10 ^ (done.length - 1) * 10 := by rw [← Nat.pow_succ]; congr 1; omega
    rw [Nat.mod_eq_of_lt (by omega), Nat.mod_eq_of_lt (by omega)] at hv
    have hc0 : c = 0 := by
      rcases Nat.eq_zero_or_pos c with h | h
      · exact h
      · have : c = 1 := by omega
        subst this
        omega
    rw [hc0, Nat.zero_mul, Nat.add_zero] at hv
    have hf := form_eq (S done) (p + 1) (by rw [size_S]; omega) (by omega) (by omega)
    rw [L_S, formL_eq hin, hv] at hf
    have e : p + 1 - (done.length : Int) = E := by omega
    rw [e] at hf
    refine Ev.step (fun k => ?_) (Ev.now _)
    simp only [bigdec_Add.l1]
    rw [if_neg (by omega), List.take_zero]
    have e2 : toI [] ++ toI done = toI done := rfl
    rw [e2, strOf_toI, wrap_id (by omega) (by omega), hf, Option.bind_some]
    have e3 : ((decS (decOf (sv a p E + sv b q E) E)).1.size : Int) = ((decOf (sv a p E + sv b q E) E).1.length : Int) := by unfold decS; rw [size_S]
    rw [e3]
    by_cases h5 : (decOf (sv a p E + sv b q E) E).1.length > 2000
    · rw [if_pos h5, if_pos (by omega)]
    · rw [if_neg h5, if_neg (by omega)]
  | succ i ih =>
    intro done c hd hin hc hv
    have hil : i < orig.length := by omega
    have hm : done.length = n - 1 - i := by omega
    have hx := ho orig[i] (List.getElem_mem hil)
    have hda : dig orig[i] = sv a p E / 10 ^ done.length % 10 := by
      rw [← hov, hm, ← hol, val_digit ho i hil]
    have hst := sum_step hv
    rw [← hda] at hst
    generalize hs : c + dig orig[i] + sv b q E / 10 ^ done.length % 10 = s at hst
    have hdl : dig orig[i] ≤ 9 := by unfold dig; omega
    have hs20 : s ≤ 19 := by omega
    have := ih (ch (s % 10) :: done) (s / 10) (by simp; omega) (by
      intro c' hc'
      rcases List.mem_cons.1 hc' with rfl | h'
      · rw [ch_toNat (by omega)]; omega
      · exact hin c' h') (by omega) (by
      rw [val_cons, List.length_cons, dig_ch (by omega)]
      omega)
    have etk : orig.take (i + 1) = orig.take i ++ [orig[i]] := List.take_succ_eq_append_getElem hil
    have hti : (toI (orig.take i)).length = i := by rw [toI_length, List.length_take]; omega
    have erd : rd (toI (orig.take (i + 1)) ++ toI done) (i : Int) = (orig[i].toNat : Int) := by
      have h3 := rd_mid (toI (orig.take i)) (orig[i].toNat : Int) (toI done)
      rw [hti] at h3
      rw [etk, toI_append, List.append_assoc]
      exact h3
    have est : ∀ v : Int, (toI (orig.take (i + 1)) ++ toI done).set i v = toI (orig.take i) ++ v :: toI done := by
      intro v
      have h3 := set_mid (toI (orig.take i)) (orig[i].toNat : Int) v (toI done)
      rw [hti] at h3
      rw [etk, toI_append, List.append_assoc]
      exact h3
    have ecur : toI (orig.take i) ++ toI (ch (s % 10) :: done) = toI (orig.take i) ++ (48 + ((s % 10 : Nat) : Int)) :: toI done := by
      unfold toI
      rw [List.map_cons, ch_toNat (by omega)]
      congr 2
    rw [ecur] at this
    have edig : ((orig[i].toNat : Int) - 48) % 256 = (dig orig[i] : Int) := by unfold dig; omega
    refine Ev.step (fun k => ?_) this
    have ei : (((i + 1 : Nat) : Int) - 1) = (i : Int) := by omega
    simp only [bigdec_Add.l1]
    have hll : ((toI (orig.take (i + 1)) ++ toI done).length : Int) = (n : Int) := by rw [List.length_append, toI_length, toI_length, List.length_take]; omega
    have ew : (wrap64 ((wrap64 ((i : Int) - 1)) - (wrap64 (p - q)))) = (i : Int) - 1 - (p - q) := by
      rw [wrap_id (x := (i : Int) - 1) (by omega) (by omega), wrap_id (x := p - q) (by omega) (by omega), wrap_id (by omega) (by omega)]
    rw [ei, if_pos (by omega), if_pos (by omega), if_pos (by rw [hll]; omega), ew, Int.toNat_natCast, erd, edig, wrap_id (x := (i : Int) - 1) (by omega) (by omega)]
    simp only [est, size_S]
    -- the other one's digit at this place
    have hdb : ∀ r : Option (ByteArray × Int × Int), True := fun _ => trivial
    have hd2 := digit_eq (x := p - i) hb h2 (by omega) (by omega)
    have en : (p - (i : Int) - E).toNat = done.length := by omega
    rw [en] at hd2
    unfold platenref04_digit.f at hd2
    have ew2 : (wrap64 ((wrap64 (q - 1)) - (p - (i : Int)))) = (i : Int) - 1 - (p - q) := by
      rw [wrap_id (x := q - 1) (by omega) (by omega), wrap_id (by omega) (by omega)]; omega
    rw [ew2, size_S] at hd2
    by_cases c1 : (i : Int) - 1 - (p - q) ≥ 0
    · rw [if_pos c1]
      rw [if_neg (by omega)] at hd2
      by_cases c2 : (i : Int) - 1 - (p - q) < (b.length : Int)
      · rw [if_pos c2, if_pos c1]
        rw [if_neg (by omega), if_pos c1, if_pos c2] at hd2
        injection hd2 with hd2
        rw [hd2]
        have e1 : (((dig orig[i] : Int) + (c : Int)) % 256 + ((sv b q E / 10 ^ done.length % 10 : Nat) : Int)) % 256 = (s : Int) := by omega
        rw [e1]
        have e2 : (s : Int) % 10 = ((s % 10 : Nat) : Int) := by omega
        have e3 : (s : Int) / 10 = ((s / 10 : Nat) : Int) := by omega
        rw [e2, e3]
      · rw [if_neg c2]
        rw [if_pos (by omega)] at hd2
        injection hd2 with hd2
        have e1 : (((dig orig[i] : Int) + (c : Int)) % 256) = (s : Int) := by omega
        rw [e1]
        have e2 : (s : Int) % 10 = ((s % 10 : Nat) : Int) := by omega
        have e3 : (s : Int) / 10 = ((s / 10 : Nat) : Int) := by omega
        rw [e2, e3]
    · rw [if_neg c1]
      rw [if_pos (by omega)] at hd2
      injection hd2 with hd2
      have e1 : (((dig orig[i] : Int) + (c : Int)) % 256) = (s : Int) := by omega
      rw [e1]
      have e2 : (s : Int) % 10 = ((s % 10 : Nat) : Int) := by omega
      have e3 : (s : Int) / 10 = ((s / 10 : Nat) : Int) := by omega
      rw [e2, e3]
end Go.Proofs.YtecpgdfnamkfdaaGreatDoor.Pure
end
section
namespace Go.Proofs.YtecpgdfnamkfdaaGreatDoor.Pure
open Go.RowKit Go.Proofs.YtecpgdfnamkfdaaGreatDoorW.PrintWords Go.Proofs.YtecpgdfnamkfdaaGreatDoor.Fn
set_option linter.unusedVariables false
set_option linter.unusedSimpArgs false
def addD (a : List UInt8) (p : Int) (b : List UInt8) (q : Int) : ByteArray × Int × Int :=
  if (sumD a p b q).1.length > 2000 then ((⟨#[]⟩ : ByteArray), 0, 2) else ((decS (sumD a p b q)).1, (decS (sumD a p b q)).2, 0)
theorem addD_comm (a : List UInt8) (p : Int) (b : List UInt8) (q : Int) : addD a p b q = addD b q a p := by unfold addD; rw [sumD_comm]
theorem addD_nil_left {b : List UInt8} {q : Int} (hb : InForm b q) (hl : b.length ≤ 2000) (p : Int) : addD [] p b q = (S b, q, 0) := by
  unfold addD
  rw [sumD_nil_left hb, if_neg (show ¬ (b, q).1.length > 2000 from by show ¬ b.length > 2000; omega)]
  rfl
theorem cmpD_neg {a b : List UInt8} {p q : Int} (ha : InForm a p) (hb : InForm b q) (hn : b ≠ []) (h : p < q) : cmpD a p b q = -1 := by
  have h1 := sv_lt (E := min (p - (a.length : Int)) (q - b.length)) (p := p) ha.1 (by omega)
  have h2 := sv_ge (E := min (p - (a.length : Int)) (q - b.length)) (p := q) hb.1 hb.2.1 hn (by omega)
  have h3 : 10 ^ (p - min (p - (a.length : Int)) (q - b.length)).toNat ≤ 10 ^ (q - 1 - min (p - (a.length : Int)) (q - b.length)).toNat := Nat.pow_le_pow_right (by omega) (by omega)
  unfold cmpD
  exact cmpN_lt (by omega)
theorem cmpD_swap (a : List UInt8) (p : Int) (b : List UInt8) (q : Int) : cmpD a p b q = - cmpD b q a p := by
  have h : min (q - (b.length : Int)) (p - a.length) = min (p - (a.length : Int)) (q - b.length) := by omega
  unfold cmpD
  rw [h]
  unfold cmpN
  split <;> split <;> (try split) <;> omega
theorem cpy_toI (a : List UInt8) (n : Nat) (h : a.length + 1 ≤ n) : cpyAt (List.replicate n 48) 1 (S a) = toI (48 :: (a ++ List.replicate (n - 1 - a.length) 48)) := by
  unfold cpyAt
  rw [bytesOf_S, size_S]
  have e1 : (List.replicate n (48 : Int)).take 1 = toI [48] := by
    rw [List.take_replicate, Nat.min_eq_left (by omega)]
    rfl
  have e2 : (List.replicate n (48 : Int)).drop (1 + a.length) = toI (List.replicate (n - 1 - a.length) 48) := by
    rw [List.drop_replicate]
    unfold toI
    rw [List.map_replicate, show n - (1 + a.length) = n - 1 - a.length by omega]
    rfl
  rw [e1, e2, ← toI_append, ← toI_append, List.append_assoc]
  rfl
theorem add_j0 {a b : List UInt8} {p q : Int} (ha : InForm a p) (hb : InForm b q) (hna : a ≠ []) (hqp : q ≤ p)
    (hba : a.length ≤ 4000 ∧ -10000 ≤ p ∧ p ≤ 10000) (hbb : b.length ≤ 4000 ∧ -10000 ≤ q ∧ q ≤ 10000) : Ev (fun k => bigdec_Add.j0 k (S a) p (S b) q) (addD a p b q) := by
  have hal : 0 < a.length := List.length_pos_iff.2 hna
  obtain ⟨E, hE⟩ : ∃ E : Int, E = min (p - (a.length : Int)) (q - b.length) := ⟨_, rfl⟩
  obtain ⟨n, hn⟩ : ∃ n : Nat, (n : Int) = p + 1 - E := ⟨(p + 1 - E).toNat, by omega⟩
  have hall : AllD (48 :: (a ++ List.replicate (n - 1 - a.length) 48)) := by
    intro c hc
    rcases List.mem_cons.1 hc with rfl | h'
    · exact ⟨by decide, by decide⟩
    · rcases List.mem_append.1 h' with h' | h'
      · exact ha.1 c h'
      · rw [List.eq_of_mem_replicate h']
        exact ⟨by decide, by decide⟩
  have hlen : (48 :: (a ++ List.replicate (n - 1 - a.length) (48 : UInt8))).length = n := by
    rw [List.length_cons, List.length_append, List.length_replicate]
    omega
  have hval : val (48 :: (a ++ List.replicate (n - 1 - a.length) 48)) = sv a p E := by
    rw [val_cons, val_append, val_zeros, List.length_replicate]
    unfold sv
    rw [show (p - (a.length : Int) - E).toNat = n - 1 - a.length by omega, show dig 48 = 0 from rfl]
    omega
  have h1 := add_l1 (E := E) (p := p) (q := q) (n := n) (a := a) (b := b) _ hall hlen hn hval ha.1 hb.1 (by omega) (by omega) hqp hba hbb (by omega) (by omega) n [] 0 (by simp) AllD.nil (by omega) (by simp [Nat.mod_one, val_nil])
  rw [List.take_of_length_le (by rw [hlen]; omega)] at h1
  have e0 : toI ([] : List UInt8) = [] := rfl
  rw [e0, List.append_nil, ← cpy_toI a n (by omega), ← sumD_at (E := E) (p := p) (q := q) (by omega) (by omega)] at h1
  have h2 : Ev (fun k => bigdec_Add.j2 k (cpyAt (List.replicate n 48) 1 (S a)) (S a) p (S b) q) (addD a p b q) := by
    refine Ev.step (fun k => ?_) h1
    simp only [bigdec_Add.j2]
    have e : (cpyAt (List.replicate n 48) 1 (S a)).length = n := by rw [cpy_toI a n (by omega), toI_length, hlen]
    rw [e, wrap_id (x := (n : Int) - 1) (by omega) (by omega)]
    rfl
  have h3 := fill_l0 (S a) p (S b) q n (by omega) (by omega) (by rw [size_S]; omega) _ h2 n 0 (by omega)
  rw [List.replicate_zero, List.nil_append] at h3
  refine Ev.step (fun k => ?_) h3
  simp only [bigdec_Add.j0]
  have em : wrap64 (wrap64 (p - mn (wrap64 (p - ((S a).size : Int))) (wrap64 (q - ((S b).size : Int)))) + 1) = (n : Int) := by
    rw [size_S, size_S, wrap_id (x := p - (a.length : Int)) (by omega) (by omega), wrap_id (x := q - (b.length : Int)) (by omega) (by omega)]
    have e2 : mn (p - (a.length : Int)) (q - b.length) = E := by unfold mn; split <;> omega
    rw [e2, wrap_id (x := p - E) (by omega) (by omega), wrap_id (x := p - E + 1) (by omega) (by omega)]
    omega
  rw [em, if_pos (by omega), Int.toNat_natCast, if_pos (by omega), Option.bind_some, List.length_replicate]
  rfl
def addS (s : ByteArray) (p : Int) (t : ByteArray) (q : Int) : ByteArray × Int × Int :=
  if (normS s p).2.2 = 0 then (if (normS t q).2.2 = 0 then addD (L (normS s p).1) (normS s p).2.1 (L (normS t q).1) (normS t q).2.1 else ((⟨#[]⟩ : ByteArray), 0, (normS t q).2.2)) else ((⟨#[]⟩ : ByteArray), 0, (normS s p).2.2)
theorem addS_eq (s : ByteArray) (p : Int) (t : ByteArray) (q : Int) : Ev (fun k => bigdec_Add.f k s p t q) (addS s p t q) := by
  unfold bigdec_Add.f addS
  refine Ev.bind (two_eq s p t q) ?_
  rcases normS_cases s p with ⟨e, h1, h2, _⟩ | ⟨l, u, h1, hf1, b1, b2, b3, _⟩
  · rw [h1, if_neg h2, if_neg h2]
    exact Ev.congr (fun k => by rw [if_neg h2]) (Ev.now _)
  · rw [h1, if_pos rfl, if_pos rfl]
    rcases normS_cases t q with ⟨e, h3, h4, _⟩ | ⟨m, v, h3, hf2, c1, c2, c3, _⟩
    · rw [h3, if_neg h4]
      exact Ev.congr (fun k => by rw [if_neg h4]) (Ev.now _)
    · rw [h3, if_pos rfl]
      show Ev _ (addD (L (S l)) u (L (S m)) v)
      rw [L_S, L_S]
      by_cases n1 : l = []
      · subst n1
        rw [addD_nil_left hf2 c1]
        exact Ev.congr (fun k => by rw [if_pos rfl, toList_L, L_S, if_pos rfl]) (Ev.now _)
      · by_cases n2 : m = []
        · subst n2
          rw [addD_comm, addD_nil_left hf1 b1]
          exact Ev.congr (fun k => by rw [if_pos rfl, toList_L, L_S, if_neg n1, toList_L, L_S, if_pos rfl]) (Ev.now _)
        · refine Ev.congr (fun k => by rw [if_pos rfl, toList_L, L_S, if_neg n1, toList_L, L_S, if_neg n2]) (Ev.bind (cmp_eq hf1 hf2) ?_)
          by_cases n3 : cmpD l u m v < 0
          · refine Ev.congr (fun k => by rw [if_pos n3]) ?_
            rw [addD_comm]
            refine add_j0 (a := m) (p := v) (b := l) (q := u) hf2 hf1 n2 ?_ (by omega) (by omega)
            by_cases n4 : u ≤ v
            · exact n4
            · have h5 := cmpD_neg hf2 hf1 n1 (show v < u by omega)
              have h6 := cmpD_swap l u m v
              omega
          · refine Ev.congr (fun k => by rw [if_neg n3]) ?_
            refine add_j0 (a := l) (p := u) (b := m) (q := v) hf1 hf2 n1 ?_ (by omega) (by omega)
            by_cases n4 : v ≤ u
            · exact n4
            · have h5 := cmpD_neg hf1 hf2 n2 (show u < v by omega)
              omega
end Go.Proofs.YtecpgdfnamkfdaaGreatDoor.Pure
end
section
namespace Go.Proofs.YtecpgdfnamkfdaaGreatDoor.Pure
open Go.RowKit Go.Proofs.YtecpgdfnamkfdaaGreatDoorW.PrintWords Go.Proofs.YtecpgdfnamkfdaaGreatDoor.Fn
set_option linter.unusedVariables false
set_option linter.unusedSimpArgs false
theorem low_decOf {n : Nat} (h : n ≠ 0) (e : Int) : e ≤ (decOf n e).2 - (decOf n e).1.length := by
  unfold decOf
  rw [if_neg h]
  have := length_rz (digs n)
  show e ≤ ((digs n).length : Int) + e - (rz (digs n)).length
  omega
theorem sv_decOf (n : Nat) (e : Int) : sv (decOf n e).1 (decOf n e).2 e = n := by
  by_cases h : n = 0
  · subst h
    unfold sv
    rw [decOf_zero]
    show val [] * _ = 0
    rw [val_nil, Nat.zero_mul]
  · unfold sv decOf
    rw [if_neg h]
    obtain ⟨k, hk⟩ := rz_prefix (digs n)
    have hv := val_digs n
    have hlen := congrArg List.length hk
    rw [List.length_append, List.length_replicate] at hlen
    rw [hk, val_append, val_zeros, List.length_replicate] at hv
    show val (rz (digs n)) * 10 ^ (((digs n).length : Int) + e - (rz (digs n)).length - e).toNat = n
    rw [show (((digs n).length : Int) + e - (rz (digs n)).length - e).toNat = k by omega]
    omega
theorem nil_decOf {n : Nat} {e : Int} : (decOf n e).1 = [] ↔ n = 0 := by
  constructor
  · intro h
    have := sv_decOf n e
    unfold sv at this
    rw [h, val_nil, Nat.zero_mul] at this
    exact this.symm
  · intro h; subst h; rfl
theorem sum_decOf (m n : Nat) (e : Int) : sumD (decOf m e).1 (decOf m e).2 (decOf n e).1 (decOf n e).2 = decOf (m + n) e := by
  by_cases hm : m = 0
  · subst hm
    rw [decOf_zero, Nat.zero_add]
    exact sumD_nil_left (inForm_decOf n e) 0
  · by_cases hn : n = 0
    · subst hn
      rw [decOf_zero, Nat.add_zero]
      exact sumD_nil_right (inForm_decOf m e) 0
    · rw [sumD_at (E := e) (low_decOf hm e) (low_decOf hn e), sv_decOf, sv_decOf]
theorem cmpD_nil (p q : Int) : cmpD [] p [] q = 0 := by
  unfold cmpD sv
  rw [val_nil, Nat.zero_mul, Nat.zero_mul, cmpN_self]
theorem cmp_decOf (m n : Nat) (e : Int) : cmpD (decOf m e).1 (decOf m e).2 (decOf n e).1 (decOf n e).2 = cmpN m n := by
  by_cases hm : m = 0
  · subst hm
    by_cases hn : n = 0
    · subst hn; rw [decOf_zero]; exact cmpD_nil 0 0
    · rw [cmpN_lt (show 0 < n by omega)]
      exact cmpD_nil_left (inForm_decOf n e) (mt nil_decOf.1 hn) _
  · by_cases hn : n = 0
    · subst hn
      rw [cmpN_gt (show 0 < m by omega)]
      exact cmpD_nil_right (inForm_decOf m e) (mt nil_decOf.1 hm) _
    · rw [cmpD_at (E := e) (low_decOf hm e) (low_decOf hn e), sv_decOf, sv_decOf]
theorem decOf_bound {n m : Nat} (h : n < 10 ^ m) (e : Int) : (decOf n e).1.length ≤ m ∧ (decOf n e).2 ≤ max 0 (e + m) ∧ min 0 e ≤ (decOf n e).2 := by
  unfold decOf
  have h1 := digs_len m n h
  have h2 := length_rz (digs n)
  by_cases h0 : n = 0
  · rw [if_pos h0]
    refine ⟨Nat.zero_le _, ?_, ?_⟩
    · show (0 : Int) ≤ _; omega
    · show _ ≤ (0 : Int); omega
  · rw [if_neg h0]
    refine ⟨?_, ?_, ?_⟩
    · show (rz (digs n)).length ≤ m; omega
    · show ((digs n).length : Int) + e ≤ _; omega
    · show _ ≤ ((digs n).length : Int) + e; omega
def downP (a : List UInt8) (n : Nat) : Prop := 2 * val (a.drop n) < 10 ^ (a.length - n) ∨ (2 * val (a.drop n) = 10 ^ (a.length - n) ∧ val (a.take n) % 2 = 0)
instance (a : List UInt8) (n : Nat) : Decidable (downP a n) := by unfold downP; infer_instance
def roundN (a : List UInt8) (p n : Int) : List UInt8 × Int :=
  if n < 0 then ([], 0) else if (a.length : Int) ≤ n then (a, p) else if downP a n.toNat then decOf (val (a.take n.toNat)) (p - n) else decOf (val (a.take n.toNat) + 1) (p - n)
theorem rz_drop : ∀ (n : Nat) (a : List UInt8), rz a = a → rz (a.drop n) = a.drop n
  | 0, a, h => h
  | n + 1, [], _ => rz_nil
  | n + 1, c :: t, h => rz_drop n t (rz_tail h)
theorem less_nil (u : List UInt8) : Op.bytesLess u [] = false := by cases u <;> rfl
theorem less5 {t : List UInt8} (h : AllD t) (hr : rz t = t) (hn : t ≠ []) : (Op.bytesLess t [53] = true ↔ 2 * val t < 10 ^ t.length) ∧ (t = [53] ↔ 2 * val t = 10 ^ t.length) := by
  cases t with
  | nil => exact absurd rfl hn
  | cons c u =>
    have hc := h.cons.1
    have hv := val_lt h.cons.2
    have h53 : (53 : UInt8).toNat = 53 := rfl
    have e1 : Op.bytesLess (c :: u) [53] = (decide (c < 53)) := by
      show (decide (c < 53) || (c == 53 && Op.bytesLess u [])) = _
      rw [less_nil]; simp
    have e2 : (c < 53) ↔ dig c < 5 := by rw [UInt8.lt_iff_toNat_lt, h53]; unfold dig; omega
    rw [e1, val_cons, List.length_cons, Nat.pow_succ, decide_eq_true_iff, e2]
    generalize hP : 10 ^ u.length = P at *
    by_cases c1 : dig c < 5
    · have h4 : dig c * P ≤ 4 * P := Nat.mul_le_mul_right P (by omega)
      refine ⟨⟨fun _ => by omega, fun _ => c1⟩, ⟨fun h5 => ?_, fun h5 => ?_⟩⟩
      · injection h5 with h6 h7; rw [h6] at c1; exact absurd c1 (by decide)
      · omega
    · have h4 : 5 * P ≤ dig c * P := Nat.mul_le_mul_right P (by omega)
      refine ⟨⟨fun h5 => absurd h5 c1, fun h5 => by omega⟩, ⟨fun h5 => ?_, fun h5 => ?_⟩⟩
      · injection h5 with h6 h7
        subst h6; subst h7
        rw [List.length_nil] at hP
        rw [val_nil, ← hP]
        rfl
      · have h6 : val u = 0 := by omega
        have hu : u = [] := by
          by_cases hu : u = []
          · exact hu
          · exact absurd h6 (last_ne h.cons.2 (rz_tail hr) hu)
        subst hu
        rw [List.length_nil] at hP
        have h7 : dig c = 5 := by rw [← hP, val_nil] at h5; omega
        congr 1
        apply UInt8.toNat_inj.1
        unfold dig at h7
        rw [h53]; omega
theorem up_go : ∀ (m : Nat) (l : List UInt8) (k : Nat), l.length = m → AllD l → ∃ r, upGo (toI (l ++ List.replicate k 48)) m = toI r ∧ AllD r ∧ val r = (val l + 1) * 10 ^ k ∧ r.length ≤ m + k + 1
  | 0, l, k, hl, h => by
    have : l = [] := List.length_eq_zero_iff.1 hl
    subst this
    refine ⟨49 :: List.replicate k 48, rfl, ?_, ?_, ?_⟩
    · intro c hc
      rcases List.mem_cons.1 hc with rfl | h'
      · exact ⟨by decide, by decide⟩
      · rw [List.eq_of_mem_replicate h']; exact ⟨by decide, by decide⟩
    · rw [val_cons, val_zeros, List.length_replicate, val_nil]; rfl
    · rw [List.length_cons, List.length_replicate]; omega
  | m + 1, l, k, hl, h => by
    rcases List.eq_nil_or_concat l with rfl | ⟨t, c, rfl⟩
    · simp at hl
    · rw [List.concat_eq_append] at *
      have htl : t.length = m := by simpa using hl
      have hc := h.last
      have e0 : toI (t ++ [c] ++ List.replicate k 48) = toI t ++ (c.toNat : Int) :: toI (List.replicate k 48) := by
        rw [toI_append, toI_append, List.append_assoc]; rfl
      have e1 : rd (toI (t ++ [c] ++ List.replicate k 48)) (m : Int) = (c.toNat : Int) := by
        have := rd_mid (toI t) (c.toNat : Int) (toI (List.replicate k 48))
        rw [toI_length, htl] at this
        rw [e0, this]
      have e2 : ∀ v : Int, (toI (t ++ [c] ++ List.replicate k 48)).set m v = toI t ++ v :: toI (List.replicate k 48) := by
        intro v
        have := set_mid (toI t) (c.toNat : Int) v (toI (List.replicate k 48))
        rw [toI_length, htl] at this
        rw [e0, this]
      unfold upGo
      rw [e1, e2, e2]
      by_cases h9 : (c.toNat : Int) < 57
      · rw [if_pos h9]
        have hd : dig c + 1 < 10 := by unfold dig; omega
        refine ⟨t ++ [ch (dig c + 1)] ++ List.replicate k 48, ?_, ?_, ?_, ?_⟩
        · have e5 : ((ch (dig c + 1)).toNat : Int) = c.toNat + 1 := by rw [ch_toNat hd]; unfold dig; omega
          rw [toI_append, toI_append, List.append_assoc]
          show _ = toI t ++ ((ch (dig c + 1)).toNat : Int) :: toI (List.replicate k 48)
          rw [e5]
        · intro x hx
          rcases List.mem_append.1 hx with h' | h'
          · rcases List.mem_append.1 h' with h' | h'
            · exact h.left x h'
            · rw [List.mem_singleton.1 h', ch_toNat hd]; omega
          · rw [List.eq_of_mem_replicate h']; exact ⟨by decide, by decide⟩
        · rw [val_append, val_zeros, val_snoc, val_snoc, dig_ch hd, List.length_replicate]; rfl
        · simp; omega
      · rw [if_neg h9]
        obtain ⟨r, r1, r2, r3, r4⟩ := up_go m t (k + 1) htl h.left
        have e6 : toI t ++ (48 : Int) :: toI (List.replicate k 48) = toI (t ++ List.replicate (k + 1) 48) := by rw [toI_append, List.replicate_succ]; rfl
        refine ⟨r, by rw [e6, r1], r2, ?_, by omega⟩
        have e7 : dig c = 9 := by unfold dig; omega
        rw [r3, val_snoc, e7, Nat.pow_succ, Nat.mul_comm (10 ^ k) 10, ← Nat.mul_assoc]
        congr 1
        omega
theorem up_eq {l : List UInt8} (h : AllD l) (hl : l.length ≤ 100000) : ∃ r, bigdec_up.f (S l) = some (S r) ∧ AllD r ∧ val r = val l + 1 ∧ r.length ≤ l.length + 1 := by
  obtain ⟨r, r1, r2, r3, r4⟩ := up_go l.length l 0 rfl h
  rw [List.replicate_zero, List.append_nil] at r1
  refine ⟨r, ?_, r2, by rw [r3, Nat.pow_zero, Nat.mul_one], by omega⟩
  unfold bigdec_up.f
  rw [bytesOf_S, size_S, r1, if_pos hl, strOf_toI]
theorem S_take (a : List UInt8) (n : Nat) : (S a).extract 0 n = S (a.take n) := by
  rw [← S_L ((S a).extract 0 n), L_extract, L_S, List.drop_zero, Nat.sub_zero]
theorem S_drop (a : List UInt8) (n : Nat) : (S a).extract n (S a).size = S (a.drop n) := by
  rw [← S_L ((S a).extract n (S a).size), L_extract, L_S, size_S]
  congr 1
  apply List.take_of_length_le
  rw [List.length_drop]
  omega
theorem round_j1 {a : List UInt8} {p : Int} (ha : AllD a) (hl : a.length ≤ 4000) (hp : -100000 ≤ p ∧ p ≤ 100000) (n : Nat) (hn : n < a.length) (b : Bool) (hb : b = decide (downP a n)) :
    Ev (fun k => bigdec_round.j1 k (n : Int) (S (a.take n)) b (S a) p) (decS (roundN a p n)) := by
  have hlen : (a.take n).length = n := by rw [List.length_take]; omega
  unfold roundN
  rw [if_neg (show ¬ (n : Int) < 0 by omega), if_neg (show ¬ (a.length : Int) ≤ n by omega), Int.toNat_natCast]
  by_cases hd : downP a n
  · rw [if_pos hd]
    have hf := form_eq (S (a.take n)) p (by rw [size_S]; omega) (by omega) (by omega)
    rw [L_S, formL_eq (ha.take n), hlen] at hf
    refine Ev.step (fun k => ?_) (Ev.now _)
    simp only [bigdec_round.j1]
    rw [if_pos (by rw [hb]; exact decide_eq_true hd), hf, Option.bind_some]
  · rw [if_neg hd]
    obtain ⟨r, r1, r2, r3, r4⟩ := up_eq (ha.take n) (by omega)
    have hf := form_eq (S r) (p + r.length - n) (by rw [size_S]; omega) (by omega) (by omega)
    rw [L_S, formL_eq r2, r3, show p + (r.length : Int) - n - r.length = p - n by omega] at hf
    refine Ev.step (fun k => ?_) (Ev.now _)
    simp only [bigdec_round.j1]
    rw [if_neg (by rw [hb, decide_eq_false hd]; exact fun h => by cases h), r1, Option.bind_some, size_S, wrap_id (x := p + (r.length : Int)) (by omega) (by omega), wrap_id (x := p + (r.length : Int) - n) (by omega) (by omega), hf, Option.bind_some]
theorem round_j0 {a : List UInt8} {p : Int} (ha : InForm a p) (hl : a.length ≤ 4000) (hp : -100000 ≤ p ∧ p ≤ 100000) (n : Nat) (hn : n < a.length) (odd : Bool) (ho : odd = decide (val (a.take n) % 2 = 1)) :
    Ev (fun k => bigdec_round.j0 k (n : Int) (S (a.take n)) (S (a.drop n)) odd (S a) p) (decS (roundN a p n)) := by
  have hdl : (a.drop n).length = a.length - n := List.length_drop
  have h5 := less5 (ha.1.drop n) (rz_drop n a ha.2.2.1) (fun e => by rw [e, List.length_nil] at hdl; omega)
  rw [hdl] at h5
  by_cases c1 : Op.bytesLess (a.drop n) [53] = true
  · refine Ev.step (fun k => ?_) (round_j1 ha.1 hl hp n hn true (by symm; exact decide_eq_true (.inl (h5.1.1 c1))))
    simp only [bigdec_round.j0]
    rw [toList_L, L_S, if_pos c1]
  · by_cases c2 : a.drop n = [53]
    · refine Ev.step (fun k => ?_) (round_j1 ha.1 hl hp n hn (!odd) ?_)
      · simp only [bigdec_round.j0]
        rw [toList_L, L_S, if_neg c1, if_pos c2]
      · have h6 := h5.2.1 c2
        by_cases c3 : val (a.take n) % 2 = 1
        · rw [ho, decide_eq_true c3, decide_eq_false]
          · rfl
          · rintro (h7 | ⟨_, h7⟩) <;> omega
        · rw [ho, decide_eq_false c3, decide_eq_true (show downP a n from .inr ⟨h6, by omega⟩)]
          rfl
    · refine Ev.step (fun k => ?_) (round_j1 ha.1 hl hp n hn false ?_)
      · simp only [bigdec_round.j0]
        rw [toList_L, L_S, if_neg c1, if_neg c2]
      · rw [decide_eq_false]
        rintro (h7 | ⟨h7, _⟩)
        · exact c1 (h5.1.2 h7)
        · exact c2 (h5.2.2 h7)
theorem round_eq {a : List UInt8} {p : Int} (ha : InForm a p) (hl : a.length ≤ 4000) (hp : -100000 ≤ p ∧ p ≤ 100000) (n : Int) : Ev (fun k => bigdec_round.f k (S a) p n) (decS (roundN a p n)) := by
  unfold bigdec_round.f
  by_cases c1 : n < 0
  · have e : roundN a p n = ([], 0) := by unfold roundN; rw [if_pos c1]
    rw [e]
    exact Ev.congr (fun k => by rw [if_pos c1]; rfl) (Ev.now _)
  · by_cases c2 : n ≥ (a.length : Int)
    · have e : roundN a p n = (a, p) := by unfold roundN; rw [if_neg c1, if_pos c2]
      rw [e]
      exact Ev.congr (fun k => by rw [if_neg c1, size_S, if_pos c2]; rfl) (Ev.now _)
    · obtain ⟨m, rfl⟩ : ∃ m : Nat, n = (m : Int) := ⟨n.toNat, by omega⟩
      have hm : m < a.length := by omega
      have key : ∀ odd : Bool, odd = decide (val (a.take m) % 2 = 1) → Ev (fun k => bigdec_round.j0 k (m : Int) ((S a).extract 0 m) ((S a).extract m (S a).size) odd (S a) p) (decS (roundN a p m)) := by
        intro odd ho
        rw [S_take, S_drop]
        exact round_j0 ha hl hp m hm odd ho
      by_cases c3 : (m : Int) > 0
      · refine Ev.congr (fun k => ?_) (key (((((bt ((S a).extract 0 m) ((m : Int) - 1)) - 48) % 256) % 2) == 1) ?_)
        · rw [if_neg c1, if_neg (by rw [size_S]; omega), if_pos (by omega), if_pos (by rw [size_S]; omega), if_pos c3, wrap_id (x := (m : Int) - 1) (by omega) (by omega), if_pos (by omega), Int.toNat_natCast, if_pos (by rw [S_take, size_S, List.length_take]; omega)]
        · rw [S_take]
          obtain ⟨j, rfl⟩ : ∃ j, m = j + 1 := ⟨m - 1, by omega⟩
          have ej : ((j + 1 : Nat) : Int) - 1 = (j : Int) := by omega
          have hj : j < a.length := by omega
          rw [ej, bt_L _ j (by rw [size_S, List.length_take]; omega)]
          simp only [L_S, List.getElem_take]
          have etk : a.take (j + 1) = a.take j ++ [a[j]] := List.take_succ_eq_append_getElem hj
          have hx := ha.1 a[j] (List.getElem_mem hj)
          have ev : val (a.take (j + 1)) = 10 * val (a.take j) + dig a[j] := by rw [etk, val_snoc]
          rw [ev]
          have e3 : ((a[j].toNat : Int) - 48) % 256 % 2 = (((10 * val (a.take j) + dig a[j]) % 2 : Nat) : Int) := by unfold dig; omega
          rw [e3]
          by_cases c4 : (10 * val (a.take j) + dig a[j]) % 2 = 1
          · rw [c4]; rfl
          · rw [show (10 * val (a.take j) + dig a[j]) % 2 = 0 by omega]; rfl
      · have h0 : m = 0 := by omega
        subst h0
        refine Ev.congr (fun k => ?_) (key false (by rw [List.take_zero, val_nil]; rfl))
        rw [if_neg c1, if_neg (by rw [size_S]; omega), if_pos (by omega), if_pos (by rw [size_S]; omega), if_neg c3]
        rfl
def roundS (s : ByteArray) (p : Int) (n : Int → Int) : ByteArray × Int × Int :=
  if (normS s p).2.2 = 0 then ((decS (roundN (L (normS s p).1) (normS s p).2.1 (n (normS s p).2.1))).1, (decS (roundN (L (normS s p).1) (normS s p).2.1 (n (normS s p).2.1))).2, 0) else ((⟨#[]⟩ : ByteArray), 0, (normS s p).2.2)
theorem roundS_eq (s : ByteArray) (p n : Int) : Ev (fun k => bigdec_Round.f k s p n) (roundS s p fun _ => n) := by
  unfold bigdec_Round.f roundS
  refine Ev.bind (norm_eq s p) ?_
  rcases normS_cases s p with ⟨e, h1, h2, _⟩ | ⟨l, u, h1, hf1, b1, b2, b3, _⟩
  · rw [h1, if_neg h2]
    exact Ev.congr (fun k => by rw [if_neg h2]) (Ev.now _)
  · rw [h1, if_pos rfl]
    exact Ev.congr (fun k => by rw [if_pos rfl]) (Ev.bind (f := fun _ bt => some (bt.1, bt.2, 0)) (round_eq hf1 (by omega) (by omega) n) (Ev.now _))
theorem mxn_eq (n : Int) : mx (-20000) (mn n 20000) = max (-20000) (min n 20000) := by
  unfold mx mn
  split <;> split <;> omega
theorem placesS_eq (s : ByteArray) (p n : Int) : Ev (fun k => bigdec_Places.f k s p n) (roundS s p fun u => u + max (-20000) (min n 20000)) := by
  unfold bigdec_Places.f roundS
  refine Ev.bind (norm_eq s p) ?_
  rcases normS_cases s p with ⟨e, h1, h2, _⟩ | ⟨l, u, h1, hf1, b1, b2, b3, _⟩
  · rw [h1, if_neg h2]
    exact Ev.congr (fun k => by rw [if_neg h2]) (Ev.now _)
  · rw [h1, if_pos rfl]
    refine Ev.congr (fun k => by rw [if_pos rfl, mxn_eq, wrap_id (x := u + max (-20000) (min n 20000)) (by omega) (by omega)]) (Ev.bind (f := fun _ bt => some (bt.1, bt.2, 0)) (round_eq hf1 (by omega) (by omega) (u + max (-20000) (min n 20000))) (Ev.now _))
end Go.Proofs.YtecpgdfnamkfdaaGreatDoor.Pure
end
section
namespace Go.Proofs.YtecpgdfnamkfdaaGreatDoor.Pure
open Go.RowKit Go.Proofs.YtecpgdfnamkfdaaGreatDoorW.PrintWords
set_option linter.unusedVariables false
def Asc (l : List UInt8) : Prop := ∀ c ∈ l, c.toNat < 128
instance (l : List UInt8) : Decidable (Asc l) := by unfold Asc; infer_instance
theorem Asc.nil : Asc [] := fun c h => by cases h
theorem Asc.app {a b : List UInt8} (ha : Asc a) (hb : Asc b) : Asc (a ++ b) := fun c h => (List.mem_append.1 h).elim (ha c) (hb c)
theorem Asc.cons {a : UInt8} {b : List UInt8} (ha : a.toNat < 128) (hb : Asc b) : Asc (a :: b) := fun c h => (List.mem_cons.1 h).elim (fun e => e ▸ ha) (hb c)
theorem Asc.take {a : List UInt8} (h : Asc a) (n : Nat) : Asc (a.take n) := fun c hc => h c (List.mem_of_mem_take hc)
theorem Asc.drop {a : List UInt8} (h : Asc a) (n : Nat) : Asc (a.drop n) := fun c hc => h c (List.mem_of_mem_drop hc)
theorem Asc.rep (n : Nat) {a : UInt8} (ha : a.toNat < 128) : Asc (List.replicate n a) := fun c hc => by rw [(List.mem_replicate.1 hc).2]; exact ha
theorem AllD.asc {l : List UInt8} (h : AllD l) : Asc l := fun c hc => by have := h c hc; omega
def zsL (n : Nat) : List UInt8 := List.replicate n 48
theorem zsL_asc (n : Nat) : Asc (zsL n) := Asc.rep n (by decide)
theorem zsL_len (n : Nat) : (zsL n).length = n := List.length_replicate
theorem zsL_all (n : Nat) : AllD (zsL n) := fun c hc => by rw [(List.mem_replicate.1 hc).2]; decide
def dch (n : Nat) : UInt8 := if n < 10 then UInt8.ofNat (48 + n) else UInt8.ofNat (87 + n)
theorem dch_asc {n : Nat} (h : n < 16) : (dch n).toNat < 128 := by
  unfold dch
  split <;> rw [UInt8.toNat_ofNat'] <;> omega
def bF (b : Nat) : Nat → Nat → List UInt8
  | 0, n => [dch (n % b)]
  | k + 1, n => if n / b = 0 then [dch (n % b)] else bF b k (n / b) ++ [dch (n % b)]
def bT (b n : Nat) : List UInt8 := bF b 63 n
theorem bF_asc {b : Nat} (h : 0 < b ∧ b ≤ 16) : ∀ k n, Asc (bF b k n)
  | 0, n => Asc.cons (dch_asc (Nat.lt_of_lt_of_le (Nat.mod_lt _ h.1) h.2)) Asc.nil
  | k + 1, n => by
    have hd := dch_asc (Nat.lt_of_lt_of_le (Nat.mod_lt n h.1) h.2)
    unfold bF
    split
    · exact Asc.cons hd Asc.nil
    · exact (bF_asc h k _).app (Asc.cons hd Asc.nil)
theorem bT_asc {b : Nat} (h : 0 < b ∧ b ≤ 16) (n : Nat) : Asc (bT b n) := bF_asc h 63 n
theorem bF_len (b : Nat) : ∀ k n, (bF b k n).length ≤ k + 1
  | 0, n => Nat.le_refl _
  | k + 1, n => by
    unfold bF
    split
    · exact Nat.le_add_left _ _
    · rw [List.length_append]; exact Nat.succ_le_succ (bF_len b k _)
theorem bF_small (b : Nat) : ∀ k n j, n < b ^ (j + 1) → (bF b k n).length ≤ j + 1
  | 0, n, j, h => Nat.le_add_left _ _
  | k + 1, n, j, h => by
    unfold bF
    by_cases c : n / b = 0
    · rw [if_pos c]; exact Nat.le_add_left _ _
    · rw [if_neg c, List.length_append]
      cases j with
      | zero =>
        rw [Nat.pow_one] at h
        exact absurd (Nat.div_eq_of_lt h) c
      | succ j =>
        refine Nat.succ_le_succ (bF_small b k _ j ?_)
        rw [Nat.pow_succ] at h
        exact Nat.div_lt_of_lt_mul (by rw [Nat.mul_comm]; exact h)
def fillL (l : List UInt8) (n : Int) : List UInt8 := l ++ zsL (n - l.length).toNat
theorem fillL_asc {l : List UInt8} (h : Asc l) (n : Int) : Asc (fillL l n) := h.app (zsL_asc _)
theorem fillL_len (l : List UInt8) (n : Int) : ((fillL l n).length : Int) = max (l.length : Int) n := by
  unfold fillL
  rw [List.length_append, zsL_len]
  omega
def powL (sign : List UInt8) (e : Int) (least : Int) : List UInt8 := sign ++ ((if e < 0 then [45] else [43]) ++ (zsL (least - (bT 10 e.natAbs).length).toNat ++ bT 10 e.natAbs))
theorem powL_asc {s : List UInt8} (h : Asc s) (e least : Int) : Asc (powL s e least) := by
  unfold powL
  refine h.app (Asc.app ?_ ((zsL_asc _).app (bT_asc (by decide) _)))
  split <;> exact Asc.cons (by decide) Asc.nil
def ptL (dot : Bool) (a b : List UInt8) : List UInt8 := if b = [] ∧ dot = false then a else a ++ (46 :: b)
theorem ptL_asc {a b : List UInt8} (ha : Asc a) (hb : Asc b) (dot : Bool) : Asc (ptL dot a b) := by
  unfold ptL
  split
  · exact ha
  · exact ha.app (Asc.cons (by decide) hb)
def eMark (big : Bool) : List UInt8 := if big then [69] else [101]
theorem eMark_asc (big : Bool) : Asc (eMark big) := by cases big <;> exact Asc.cons (by decide) Asc.nil
def sciL (dot big : Bool) (l : List UInt8) (e : Int) : List UInt8 := ptL dot (l.take 1) (l.drop 1) ++ powL (eMark big) e 2
theorem sciL_asc {l : List UInt8} (h : Asc l) (dot big : Bool) (e : Int) : Asc (sciL dot big l e) := (ptL_asc (h.take 1) (h.drop 1) dot).app (powL_asc (eMark_asc big) e 2)
def firstL (d : List UInt8 × Int) : Int := if d.1 = [] then 0 else d.2 - 1
def aroundL (dot : Bool) (l : List UInt8) (p : Int) : List UInt8 := if p ≤ 0 then ptL dot [48] (zsL (-p).toNat ++ l) else ptL dot ((fillL l p).take p.toNat) ((fillL l p).drop p.toNat)
theorem aroundL_asc {l : List UInt8} (h : Asc l) (dot : Bool) (p : Int) : Asc (aroundL dot l p) := by
  unfold aroundL
  split
  · exact ptL_asc (Asc.cons (by decide) Asc.nil) ((zsL_asc _).app h) dot
  · exact ptL_asc ((fillL_asc h p).take _) ((fillL_asc h p).drop _) dot
def scaledL (dot big : Bool) (v : List UInt8 × Int) (p : Int) : List UInt8 := sciL dot big (fillL (roundN v.1 v.2 (p + 1)).1 (p + 1)) (firstL (roundN v.1 v.2 (p + 1)))
def fixedL (dot : Bool) (v : List UInt8 × Int) (p : Int) : List UInt8 :=
  if (roundN v.1 v.2 (v.2 + p)).1 = [] then ptL dot [48] (zsL p.toNat)
  else if (roundN v.1 v.2 (v.2 + p)).2 ≤ 0 then ptL dot [48] (fillL (zsL (-(roundN v.1 v.2 (v.2 + p)).2).toNat ++ (roundN v.1 v.2 (v.2 + p)).1) p)
  else aroundL dot (fillL (roundN v.1 v.2 (v.2 + p)).1 ((roundN v.1 v.2 (v.2 + p)).2 + p)) (roundN v.1 v.2 (v.2 + p)).2
def genL (dot big : Bool) (d : List UInt8 × Int) (keep top : Int) : List UInt8 :=
  let l := if d.1 = [] then [48] else d.1
  let m := if dot then fillL l keep else l
  if firstL d < -4 ∨ firstL d ≥ top then sciL dot big m (firstL d) else aroundL dot m (firstL d + 1)
def binL (m : Nat) (e : Int) : List UInt8 := bT 10 m ++ powL [112] e 1
end Go.Proofs.YtecpgdfnamkfdaaGreatDoor.Pure
end
section
namespace Go.Proofs.YtecpgdfnamkfdaaGreatDoor.Pure
open Go.RowKit Go.Proofs.YtecpgdfnamkfdaaGreatDoorW.PrintWords Go.Proofs.YtecpgdfnamkfdaaGreatDoorW.PrintLast Go.Proofs.YtecpgdfnamkfdaaGreatDoorW.PrintMore Go.Proofs.YtecpgdfnamkfdaaGreatDoor.Fn
set_option linter.unusedVariables false
set_option linter.unusedSimpArgs false
theorem S_app2 (a b : List UInt8) : S a ++ S b = S (a ++ b) := by
  rw [← S_L (S a ++ S b)]
  congr 1
theorem S_drop2 (a : List UInt8) (n : Nat) : (S a).extract n (S a).size = S (a.drop n) := by
  rw [← S_L ((S a).extract n (S a).size)]
  congr 1
  unfold L
  rw [ByteArray.data_extract, Array.toList_extract, size_S]
  simp [S, List.extract_eq_take_drop, List.take_of_length_le]
theorem mx_eq (a b : Int) : mx a b = max a b := by unfold mx; omega
theorem mn_eq (a b : Int) : mn a b = min a b := by unfold mn; omega
theorem rep_L (c : UInt8) : ∀ n, Lib.repeatL [c] n = List.replicate n c
  | 0 => rfl
  | n + 1 => by rw [Lib.repeatL, rep_L c n, List.replicate_succ]; rfl
theorem repeat_eq (c : UInt8) {n : Int} (h0 : 0 ≤ n) (h1 : n ≤ 1000000) : strings_Repeat.f (S [c]) n = some (S (List.replicate n.toNat c)) := by
  unfold strings_Repeat.f
  rw [if_pos ⟨h0, h1, by rw [size_S]; exact (show (1 : Nat) ≤ 1000000 by decide)⟩]
  have : (S [c]).data.toList = [c] := rfl
  rw [this, rep_L]
  rfl
theorem repeat0 {n : Int} (h0 : 0 ≤ n) (h1 : n ≤ 1000000) : strings_Repeat.f (⟨#[48]⟩ : ByteArray) n = some (S (zsL n.toNat)) := repeat_eq 48 h0 h1
theorem bt_dch : ∀ i : Nat, i < 16 → bt (⟨#[48, 49, 50, 51, 52, 53, 54, 55, 56, 57, 97, 98, 99, 100, 101, 102]⟩ : ByteArray) (i : Int) = ((dch i).toNat : Int) := by decide
theorem dg_bF {b : Nat} (hb : 0 < b ∧ b ≤ 16) : ∀ (k m : Nat) (l : List Int),
    dgF (⟨#[48, 49, 50, 51, 52, 53, 54, 55, 56, 57, 97, 98, 99, 100, 101, 102]⟩ : ByteArray) b (k + 1) m l = toI (bF b k m) ++ l
  | 0, m, l => by
    have h := bt_dch (m % b) (Nat.lt_of_lt_of_le (Nat.mod_lt _ hb.1) hb.2)
    rw [dgF]
    split
    · rw [h]; rfl
    · rw [dgF, h]; rfl
  | k + 1, m, l => by
    have h := bt_dch (m % b) (Nat.lt_of_lt_of_le (Nat.mod_lt _ hb.1) hb.2)
    rw [dgF, bF]
    by_cases c : m / b = 0
    · rw [if_pos c, if_pos c, h]; rfl
    · rw [if_neg c, if_neg c, dg_bF hb k, h]
      unfold toI
      rw [List.map_append, List.append_assoc]
      rfl
theorem digits_eq {b : Nat} (hb : 2 ≤ b ∧ b ≤ 16) {n : Nat} (hn : n ≤ 18446744073709551615) :
    ints_digits.f (n : Int) (b : Int) (⟨#[48, 49, 50, 51, 52, 53, 54, 55, 56, 57, 97, 98, 99, 100, 101, 102]⟩ : ByteArray) = some (S (bT b n)) := by
  unfold ints_digits.f
  have hs : (⟨#[48, 49, 50, 51, 52, 53, 54, 55, 56, 57, 97, 98, 99, 100, 101, 102]⟩ : ByteArray).size = 16 := rfl
  rw [if_pos ⟨by omega, by omega, by omega, by rw [hs]; omega, by rw [hs]; decide⟩, Int.toNat_natCast, Int.toNat_natCast, dg_bF ⟨by omega, hb.2⟩, List.append_nil, strOf_toI]
  rfl
theorem u64c (n : Nat) (h : n ≤ 18446744073709551615) : IntKind.u64.wrap (n : Int) = (n : Int) := IntWalk.u64_in _ ⟨by omega, by omega⟩
theorem digits10 {n : Nat} (hn : n ≤ 18446744073709551615) : ints_Digits.f (n : Int) 10 = some (S (bT 10 n)) := by
  unfold ints_Digits.f
  rw [if_neg (by decide), if_neg (by decide), if_pos rfl, show IntKind.u64.wrap (10 : Int) = ((10 : Nat) : Int) from u64c 10 (by decide), digits_eq (by decide) hn]
  rfl
theorem digits16 {n : Nat} (hn : n ≤ 18446744073709551615) : ints_Digits.f (n : Int) 16 = some (S (bT 16 n)) := by
  unfold ints_Digits.f
  rw [if_neg (by decide), if_neg (by decide), if_neg (by decide), if_pos rfl, show IntKind.u64.wrap (16 : Int) = ((16 : Nat) : Int) from u64c 16 (by decide), digits_eq (by decide) hn]
  rfl
theorem bT_len (b n : Nat) : (bT b n).length ≤ 64 := bF_len b 63 n
theorem join_flat (l : List (List UInt8)) (h : l.length ≤ 1000) (h2 : l.flatten.length ≤ 1000000) : strings_Join.f (l.map S) (⟨#[]⟩ : ByteArray) = some (S l.flatten) := by
  have e : Lib.join ((l.map S).map (·.data.toList)) (⟨#[]⟩ : ByteArray).data.toList = l.flatten := by
    have e1 : (l.map S).map (·.data.toList) = l := by
      rw [List.map_map]
      exact List.map_id l
    rw [e1]
    unfold Lib.join
    have e2 : (⟨#[]⟩ : ByteArray).data.toList = ([] : List UInt8) := rfl
    rw [e2]
    clear h h2 e1 e2
    induction l with
    | nil => rfl
    | cons a t ih =>
      cases t with
      | nil => simp [List.intercalate]
      | cons b u => 
        rw [List.flatten_cons, ← ih]
        simp [List.intercalate, List.intersperse]
  unfold strings_Join.f
  rw [if_pos ⟨by rw [List.length_map]; exact h, by rw [e]; exact h2⟩, e]
  rfl
theorem joined_eq (l : List (List UInt8)) (h : l.length ≤ 1000) (h2 : l.flatten.length ≤ 1000000) : floats_joined.f (l.map S) = some (S l.flatten) := by
  unfold floats_joined.f
  rw [join_flat l h h2]
  rfl
theorem joined2 {a b : List UInt8} (h : a.length + b.length ≤ 1000000) : floats_joined.f [S a, S b] = some (S (a ++ b)) := by
  have := joined_eq [a, b] (by simp) (by simp; omega)
  simpa using this
theorem joined3 {a b c : List UInt8} (h : a.length + b.length + c.length ≤ 1000000) : floats_joined.f [S a, S b, S c] = some (S (a ++ (b ++ c))) := by
  have := joined_eq [a, b, c] (by simp) (by simp; omega)
  simpa using this
theorem joined4 {a b c d : List UInt8} (h : a.length + b.length + c.length + d.length ≤ 1000000) : floats_joined.f [S a, S b, S c, S d] = some (S (a ++ (b ++ (c ++ d)))) := by
  have := joined_eq [a, b, c, d] (by simp) (by simp; omega)
  simpa using this
theorem w64 {x : Int} (h1 : -9223372036854775808 ≤ x) (h2 : x ≤ 9223372036854775807) : wrap64 x = x := by unfold wrap64; omega
theorem filled_eq {l : List UInt8} {n : Int} (hl : l.length ≤ 100000) (hn : -100000 ≤ n ∧ n ≤ 100000) : floats_filled.f (S l) n = some (S (fillL l n)) := by
  unfold floats_filled.f
  rw [size_S, w64 (by omega) (by omega), mx_eq, repeat0 (by omega) (by omega), Option.bind_some, size_S, zsL_len, if_pos (by omega), S_app2]
  unfold fillL
  rw [show (max 0 (n - (l.length : Int))).toNat = (n - (l.length : Int)).toNat by omega]
theorem power_eq {s : List UInt8} {e least : Int} (hs : s.length ≤ 1000) (he : -100000 ≤ e ∧ e ≤ 100000) (hl : 0 ≤ least ∧ least ≤ 1000) : floats_power.f (S s) e least = some (S (powL s e least)) := by
  have hb := bT_len 10 e.natAbs
  unfold floats_power.f powL
  by_cases c : e < 0
  · rw [if_pos c, if_pos c, w64 (by omega) (by omega), show (-e) = ((e.natAbs : Nat) : Int) by omega, u64c _ (by omega), digits10 (by omega)]
    simp only [Option.bind_some]
    rw [size_S, w64 (by omega) (by omega), mx_eq, repeat0 (by omega) (by omega)]
    simp only [Option.bind_some]
    rw [show (⟨#[45]⟩ : ByteArray) = S [45] from rfl, joined4 (by rw [zsL_len]; simp; omega)]
    rw [show (max 0 (least - ((bT 10 e.natAbs).length : Int))).toNat = (least - ((bT 10 e.natAbs).length : Int)).toNat by omega]
    rfl
  · rw [if_neg c, if_neg c, show e = ((e.natAbs : Nat) : Int) by omega, u64c _ (by omega), Int.natAbs_natCast, digits10 (by omega)]
    simp only [Option.bind_some]
    rw [size_S, w64 (by omega) (by omega), mx_eq, repeat0 (by omega) (by omega)]
    simp only [Option.bind_some]
    rw [show (⟨#[43]⟩ : ByteArray) = S [43] from rfl, joined4 (by rw [zsL_len]; simp; omega)]
    rw [show (max 0 (least - ((bT 10 e.natAbs).length : Int))).toNat = (least - ((bT 10 e.natAbs).length : Int)).toNat by omega]
    rfl
theorem empty_iff (l : List UInt8) : (S l).toList = ([] : List UInt8) ↔ l = [] := by rw [toList_L, L_S]
theorem pointed_eq (x0 x1 x2 x3 x4 x6 : Int) (dot : Bool) {a b : List UInt8} (h : a.length + b.length ≤ 500000) : floats_float_pointed.f x0 x1 x2 x3 x4 dot x6 (S a) (S b) = some (S (ptL dot a b)) := by
  have hj : floats_joined.f [S a, (⟨#[46]⟩ : ByteArray), S b] = some (S (a ++ (46 :: b))) := by
    rw [show (⟨#[46]⟩ : ByteArray) = S [46] from rfl, joined3 (by simp; omega)]
    rfl
  unfold floats_float_pointed.f ptL
  by_cases c : b = []
  · rw [if_pos ((empty_iff b).2 c)]
    cases dot with
    | true => rw [if_pos rfl, hj, if_neg (by simp)]; rfl
    | false => rw [if_neg (by simp), if_pos ⟨c, rfl⟩]
  · rw [if_neg (fun e => c ((empty_iff b).1 e)), hj, if_neg (fun e => c e.1)]; rfl
theorem ptL_len (dot : Bool) (a b : List UInt8) : (ptL dot a b).length ≤ a.length + b.length + 1 := by
  unfold ptL
  split
  · omega
  · simp; omega
theorem powL_len (s : List UInt8) {e least : Int} (hl : 0 ≤ least ∧ least ≤ 1000) : (powL s e least).length ≤ s.length + 1100 := by
  have hb := bT_len 10 e.natAbs
  unfold powL
  rw [List.length_append, List.length_append, List.length_append, zsL_len]
  have : (if e < 0 then ([45] : List UInt8) else [43]).length = 1 := by split <;> rfl
  omega
def bigV (v : Int) : Bool := v == 69 || v == 71
theorem sci_eq (x0 x1 x2 x3 x4 v : Int) (dot : Bool) {l : List UInt8} {e : Int} (hn : l ≠ []) (hl : l.length ≤ 100000) (he : -100000 ≤ e ∧ e ≤ 100000) :
    Ev (fun k => floats_float_scientific.f k x0 x1 x2 x3 x4 dot v (S l) e) (S (sciL dot (bigV v) l e)) := by
  have h1 : 1 ≤ l.length := Nat.succ_le_of_lt (List.length_pos_iff.2 hn)
  have hp := pointed_eq x0 x1 x2 x3 x4 v dot (a := l.take 1) (b := l.drop 1) (by rw [List.length_take, List.length_drop]; omega)
  have hlen := ptL_len dot (l.take 1) (l.drop 1)
  rw [List.length_take, List.length_drop] at hlen
  have key : ∀ big : Bool, Ev (fun k => floats_float_scientific.j0 k (S l) e (⟨#[101]⟩ : ByteArray) big x0 x1 x2 x3 x4 dot v) (S (sciL dot big l e)) := by
    intro big
    have hw := powL_len (eMark big) (e := e) (least := 2) (by decide)
    have hm : (eMark big).length = 1 := by cases big <;> rfl
    have hq := power_eq (s := eMark big) (e := e) (least := 2) (by omega) he (by decide)
    refine Ev.step (f := fun _ => some (S (sciL dot big l e))) (fun k => ?_) (Ev.now _)
    simp only [floats_float_scientific.j0]
    rw [size_S, S_take, ← size_S l, S_drop2, size_S, hp]
    cases big with
    | true =>
      rw [if_pos rfl, if_pos (by decide), if_pos (by omega)]
      simp only [Option.bind_some]
      rw [show (⟨#[69]⟩ : ByteArray) = S (eMark true) from rfl, hq]
      simp only [Option.bind_some]
      rw [joined2 (by omega)]
      rfl
    | false =>
      rw [if_neg (by simp), if_pos (by decide), if_pos (by omega)]
      simp only [Option.bind_some]
      rw [show (⟨#[101]⟩ : ByteArray) = S (eMark false) from rfl, hq]
      simp only [Option.bind_some]
      rw [joined2 (by omega)]
      rfl
  unfold floats_float_scientific.f
  by_cases c : v = 69
  · refine Ev.congr (fun k => if_pos c) ?_
    have : bigV v = true := by unfold bigV; rw [c]; rfl
    rw [this]
    exact key true
  · refine Ev.congr (fun k => if_neg c) ?_
    have : bigV v = (v == 71) := by unfold bigV; rw [beq_eq_false_iff_ne.mpr c]; rfl
    rw [this]
    exact key _
theorem first_eq (l : List UInt8) {p : Int} (hp : -100000 ≤ p ∧ p ≤ 100000) : floats_first.f (S l) p = some (firstL (l, p)) := by
  unfold floats_first.f firstL
  by_cases c : l = []
  · rw [if_pos ((empty_iff l).2 c), if_pos c]
  · rw [if_neg (fun e => c ((empty_iff l).1 e)), if_neg c, w64 (by omega) (by omega)]
theorem around_eq (x0 x1 x2 x3 x4 x6 : Int) (dot : Bool) {l : List UInt8} {p : Int} (hl : l.length ≤ 100000) (hp : -100000 ≤ p ∧ p ≤ 100000) : floats_float_around.f x0 x1 x2 x3 x4 dot x6 (S l) p = some (S (aroundL dot l p)) := by
  unfold floats_float_around.f aroundL
  by_cases c : p ≤ 0
  · rw [if_pos c, if_pos c, w64 (by omega) (by omega), repeat0 (by omega) (by omega)]
    simp only [Option.bind_some]
    rw [size_S, size_S, zsL_len, if_pos (by omega), S_app2, show (⟨#[48]⟩ : ByteArray) = S [48] from rfl, pointed_eq _ _ _ _ _ _ _ (by rw [List.length_append, zsL_len]; simp; omega)]
    rfl
  · have hf := fillL_len l p
    rw [if_neg c, if_neg c, filled_eq hl hp]
    simp only [Option.bind_some]
    rw [size_S, if_pos (by omega), if_pos (by omega), S_take, ← size_S (fillL l p), S_drop2, pointed_eq _ _ _ _ _ _ _ (by rw [List.length_take, List.length_drop]; omega)]
    rfl
theorem binary_eq (x0 x1 x4 x6 : Int) (dot : Bool) {m : Nat} {e : Int} (hm : m ≤ 18446744073709551615) (he : -100000 ≤ e ∧ e ≤ 100000) : floats_float_binary.f x0 x1 (m : Int) e x4 dot x6 = some (S (binL m e)) := by
  have hb := bT_len 10 m
  have hw := powL_len ([112] : List UInt8) (e := e) (least := 1) (by decide)
  unfold floats_float_binary.f binL
  rw [digits10 hm]
  simp only [Option.bind_some]
  rw [show (⟨#[112]⟩ : ByteArray) = S [112] from rfl, power_eq (by decide) he (by decide)]
  simp only [Option.bind_some]
  rw [joined2 (by simp at hw; omega)]
  rfl
def sixL (n : Nat) : List UInt8 := zsL (16 - (bT 16 n).length) ++ bT 16 n
theorem bT16_len {n : Nat} (hn : n ≤ 18446744073709551615) : (bT 16 n).length ≤ 16 := bF_small 16 63 n 15 (by omega)
theorem sixL_len {n : Nat} (hn : n ≤ 18446744073709551615) : (sixL n).length = 16 := by
  have := bT16_len hn
  unfold sixL
  rw [List.length_append, zsL_len]
  omega
theorem six_eq {n : Nat} (hn : n ≤ 18446744073709551615) : floats_sixteen.f (n : Int) = some (S (sixL n)) := by
  have hb := bT16_len hn
  unfold floats_sixteen.f sixL
  rw [digits16 hn]
  simp only [Option.bind_some]
  rw [size_S, w64 (by omega) (by omega), repeat0 (by omega) (by omega)]
  simp only [Option.bind_some]
  rw [size_S, zsL_len, if_pos (by omega), S_app2, show ((16 : Int) - ((bT 16 n).length : Int)).toNat = 16 - (bT 16 n).length by omega]
theorem fill_eq (c : UInt8) (n : Int) : buf_Fill.f (c.toNat : Int) n = some (S (List.replicate (min n 1000).toNat c)) := by
  unfold buf_Fill.f
  have e : strOfNums [(c.toNat : Int)] = S [c] := strOf_toI [c]
  rw [e, mx_eq, mn_eq, repeat_eq c (by omega) (by omega), show (max 0 (min n 1000)).toNat = (min n 1000).toNat by omega]
  rfl
def padL (l : List UInt8) (minus zero : Bool) (wid : Int) : List UInt8 :=
  if minus then l ++ List.replicate (max 0 (min wid 1000) - l.length).toNat 32 else if zero then List.replicate (max 0 (min wid 1000) - l.length).toNat 48 ++ l else List.replicate (max 0 (min wid 1000) - l.length).toNat 32 ++ l
theorem count_eq {l : List UInt8} (h : Asc l) (hl : l.length ≤ 1000000) : buf_Count.f (S l) = some (l.length : Int) := by
  have ha : (S l).data.toList.all (fun b => b.toNat < 128) = true := List.all_eq_true.2 (fun c hc => decide_eq_true (h c hc))
  unfold buf_Count.f
  rw [if_pos ⟨by rw [size_S]; exact hl, ha⟩, size_S]
theorem pad_eq {l : List UInt8} (h : Asc l) (hl : l.length ≤ 900000) (p m s sp z : Bool) (wid prec v : Int) : buf_Pad.f (S l) p m s sp z wid prec v = some (S (padL l m z wid)) := by
  unfold buf_Pad.f padL
  rw [count_eq h (by omega)]
  simp only [Option.bind_some]
  rw [mx_eq, mn_eq, w64 (by omega) (by omega)]
  have hf := fun c : UInt8 => fill_eq c (max 0 (min wid 1000) - (l.length : Int))
  have hm : (min (max 0 (min wid 1000) - (l.length : Int)) 1000).toNat = (max 0 (min wid 1000) - (l.length : Int)).toNat := by omega
  rw [hm] at hf
  have h32 := hf 32
  have h48 := hf 48
  rw [show (((32 : UInt8).toNat : Nat) : Int) = 32 from rfl] at h32
  rw [show (((48 : UInt8).toNat : Nat) : Int) = 48 from rfl] at h48
  by_cases c : max 0 (min wid 1000) - (l.length : Int) ≤ 0
  · have e0 : (max 0 (min wid 1000) - (l.length : Int)).toNat = 0 := by omega
    rw [if_pos c, e0]
    simp
  · rw [if_neg c, h32, h48]
    simp only [Option.bind_some, size_S, List.length_replicate]
    cases m with
    | true => rw [if_pos rfl, if_pos (by omega), S_app2]; simp
    | false =>
      cases z with
      | true => rw [if_neg (by simp), if_pos rfl, if_pos (by omega), S_app2]; simp
      | false => rw [if_neg (by simp), if_neg (by simp), if_pos (by omega), S_app2]; simp
end Go.Proofs.YtecpgdfnamkfdaaGreatDoor.Pure
end
section
namespace Go.Proofs.YtecpgdfnamkfdaaGreatDoor.Pure
open Go.RowKit Go.Proofs.YtecpgdfnamkfdaaGreatDoorW.PrintWords Go.Proofs.YtecpgdfnamkfdaaGreatDoor.Fn
set_option linter.unusedVariables false
set_option linter.unusedSimpArgs false
theorem all_isD {l : List UInt8} (h : AllD l) : l.all isD = true := List.all_eq_true.2 fun c hc => (isD_iff c).2 (h c hc)
theorem formL_form {l : List UInt8} {p : Int} (h : InForm l p) : formL l p = (l, p) := by rw [formL_eq h.1, decOf_val h]
theorem normS_ok {l : List UInt8} {p : Int} (h : InForm l p) (hl : l.length ≤ 2000) (hp : -5000 ≤ p ∧ p ≤ 5000) : normS (S l) p = (S l, p, 0) := by
  unfold normS normTail
  rw [if_neg (by rw [size_S]; omega), L_S, if_pos (all_isD h.1), if_neg (by omega), if_neg (by omega), formL_form h]
  rfl
theorem addS_ok {a b : List UInt8} {p q : Int} (ha : InForm a p) (hb : InForm b q) (h1 : a.length ≤ 2000 ∧ -5000 ≤ p ∧ p ≤ 5000) (h2 : b.length ≤ 2000 ∧ -5000 ≤ q ∧ q ≤ 5000) : addS (S a) p (S b) q = addD a p b q := by
  unfold addS
  rw [normS_ok ha h1.1 h1.2, normS_ok hb h2.1 h2.2, if_pos rfl, if_pos rfl]
  show addD (L (S a)) p (L (S b)) q = _
  rw [L_S, L_S]
theorem cmpS_ok {a b : List UInt8} {p q : Int} (ha : InForm a p) (hb : InForm b q) (h1 : a.length ≤ 2000 ∧ -5000 ≤ p ∧ p ≤ 5000) (h2 : b.length ≤ 2000 ∧ -5000 ≤ q ∧ q ≤ 5000) : cmpS (S a) p (S b) q = (cmpD a p b q, 0) := by
  unfold cmpS
  rw [normS_ok ha h1.1 h1.2, normS_ok hb h2.1 h2.2, if_pos rfl, if_pos rfl]
  show (cmpD (L (S a)) p (L (S b)) q, (0 : Int)) = _
  rw [L_S, L_S]
end Go.Proofs.YtecpgdfnamkfdaaGreatDoor.Pure
end
section
namespace Go.Proofs.YtecpgdfnamkfdaaGreatDoor.Pure
open Go.RowKit Go.Proofs.YtecpgdfnamkfdaaGreatDoorW.PrintWords Go.Proofs.YtecpgdfnamkfdaaGreatDoor.Fn
set_option linter.unusedVariables false
set_option linter.unusedSimpArgs false
theorem ten_split (k j : Nat) : (10 : Nat) ^ (k + j) = 10 ^ k * (2 ^ j * 5 ^ j) := by
  rw [Nat.pow_add, ← Nat.mul_pow]
theorem decOf_at (n : Nat) (x : Int) (V : Nat) (h : -(V : Int) ≤ x) : decOf n x = decOf (n * 10 ^ (x + V).toNat) (-(V : Int)) := by
  have := decOf_scale n (x + V).toNat x
  rw [← this]
  congr 1
  omega
theorem exact_cmp (m n U V : Nat) (e x : Int) (hU : -(U : Int) ≤ e) (hV : U ≤ V) (hx : -(V : Int) ≤ x) :
    cmpD (decOf (m * eBase e ^ e.natAbs) (eLim e)).1 (decOf (m * eBase e ^ e.natAbs) (eLim e)).2 (decOf n x).1 (decOf n x).2 = cmpN (m * 2 ^ (e + U).toNat * 10 ^ V) (n * 10 ^ (x + V).toNat * 2 ^ U) := by
  have he : -(V : Int) ≤ eLim e := by unfold eLim; split <;> omega
  rw [decOf_at _ (eLim e) V he, decOf_at n x V hx, cmp_decOf, ← cmpN_mul _ _ (2 ^ U) (Nat.pow_pos (by omega))]
  congr 1
  unfold eLim eBase
  by_cases c : e < 0
  · rw [if_pos c, if_pos c]
    obtain ⟨j, rfl⟩ : ∃ j : Nat, e = -(j : Int) := ⟨e.natAbs, by omega⟩
    have e1 : (-(j : Int)).natAbs = j := by omega
    have e2 : (-(j : Int) + (V : Int)).toNat = V - j := by omega
    have e3 : (-(j : Int) + (U : Int)).toNat = U - j := by omega
    rw [e1, e2, e3]
    obtain ⟨u, rfl⟩ : ∃ u, U = u + j := ⟨U - j, by omega⟩
    obtain ⟨v, rfl⟩ : ∃ v, V = v + j := ⟨V - j, by omega⟩
    rw [Nat.add_sub_cancel, Nat.add_sub_cancel, ten_split, Nat.pow_add]
    simp only [Nat.mul_assoc, Nat.mul_comm, Nat.mul_left_comm]
  · rw [if_neg c, if_neg c]
    obtain ⟨j, rfl⟩ : ∃ j : Nat, e = (j : Int) := ⟨e.natAbs, by omega⟩
    have e1 : ((j : Int)).natAbs = j := by omega
    have e2 : ((0 : Int) + (V : Int)).toNat = V := by omega
    have e3 : ((j : Int) + (U : Int)).toNat = j + U := by omega
    rw [e1, e2, e3, Nat.pow_add]
    simp only [Nat.mul_assoc, Nat.mul_comm, Nat.mul_left_comm]
def vvGo (n : Nat) : Nat := if n = 0 then 20000 else vvGo (n / 2)
def vv : Nat := vvGo 0
theorem vv_eq : vv = 20000 := by unfold vv; rw [vvGo]; rfl
def CC : Nat := 10 ^ vv
theorem CC_pos : 0 < CC := Nat.pow_pos (by omega)
def uu (wide : Bool) : Nat := ll wide + 1
def dX (wide : Bool) (n : Nat) (x : Int) : Nat := n * 10 ^ (x + vv).toNat * 2 ^ uu wide
def flo (wide : Bool) (X : Nat) : Nat := if fW (ff wide) (ii wide) * (2 * CC) ≤ X then ii wide else fFind (ff wide) X (2 * CC) 64 0
def rdX (wide : Bool) (X : Nat) : Nat := fNear (ff wide) (ii wide) X (2 * CC) (flo wide X)
theorem flo_spec (wide : Bool) (X : Nat) : fFloor (ff wide) (ii wide) X (2 * CC) (flo wide X) := by
  unfold flo
  by_cases c : fW (ff wide) (ii wide) * (2 * CC) ≤ X
  · rw [if_pos c]
    exact ⟨Nat.le_refl _, c, fun h => absurd h (Nat.lt_irrefl _)⟩
  · rw [if_neg c]
    obtain ⟨h1, h2, h3, h4⟩ := fFind_spec (ff wide) X (2 * CC) 64 0 (by rw [fW_zero]; omega)
    have hi := (ii_lt wide).2.2
    have e : (2 : Nat) ^ 64 = 18446744073709551616 := by decide
    have h5 : fW (ff wide) (ii wide) * (2 * CC) ≤ fW (ff wide) (0 + 2 ^ 64) * (2 * CC) := Nat.mul_le_mul_right _ (fW_le (by omega))
    have h6 := h2 (by omega)
    generalize fFind (ff wide) X (2 * CC) 64 0 = q at *
    refine ⟨?_, h1, fun _ => h6⟩
    by_cases c2 : ii wide ≤ q
    · have := Nat.mul_le_mul_right (2 * CC) (fW_le (f := ff wide) c2)
      omega
    · omega
end Go.Proofs.YtecpgdfnamkfdaaGreatDoor.Pure
end
section
namespace Go.Proofs.YtecpgdfnamkfdaaGreatDoor.Fn
open Go.RowKit Go.Proofs.YtecpgdfnamkfdaaGreatDoorW.PrintWords Go.Proofs.YtecpgdfnamkfdaaGreatDoorW.PrintLast Go.Proofs.YtecpgdfnamkfdaaGreatDoorW.PrintMore
attribute [local go_sem] fnW_0 fnW_1 fnW_2 fnW_3 fnW_4 fnW_5 fnW_guard fnW_eql max2_int min2_int max_two min_two
set_option linter.unusedVariables false
set_option linter.unusedSimpArgs false
def short_shape_exact.f (k : Nat) (a0_0 : Int) (a0_1 : Int) (a0_2 : Int) (a1 : Int) : Option (ByteArray × Int) := (short_shape_value.f a0_0 a0_1 a0_2 a1).bind fun bt168 => ((bigdec_Exact.f k bt168.1 bt168.2).bind fun bt170 => (some (bt170.1, bt170.2.1)))
set_option maxHeartbeats 8000000 in
set_option maxRecDepth 100000 in
theorem short_shape_exact.calls (k : Nat) (a0_0 : Int) (a0_1 : Int) (a0_2 : Int) (a1 : Int) (r1 : ByteArray) (r2 : Int) (w : World) (h : short_shape_exact.f k a0_0 a0_1 a0_2 a1 = some (r1, r2)) :
  Calls Tryz.prog 54 #[.agg #[.int .i64 a0_0, .int .i64 a0_1, .int .u64 a0_2], .int .u64 a1] w fun e w' => e = .returned (.agg #[.string r1, .int .i64 r2]) ∧ Below w.heap.size w w' := by
 have hu66 := Tryz.underlying66
 have hu42 := Tryz.underlying42
 have HB := Aside0.mk (Below.refl w.heap.size w)
 have H : ((short_shape_value.f a0_0 a0_1 a0_2 a1).bind fun bt168 => ((bigdec_Exact.f k bt168.1 bt168.2).bind fun bt170 => (some (bt170.1, bt170.2.1)))) = some (r1, r2) := h
 clear h
 replace H := bs H
 obtain ⟨⟨t168, t169⟩, A3, H⟩ := H
 dsimp only at H
 replace H := bs H
 obtain ⟨⟨t170, t171, t172⟩, A4, H⟩ := H
 dsimp only at H
 simp only [Option.some.injEq, Prod.mk.injEq] at H
 obtain ⟨rfl, rfl⟩ := H
 go_enter Tryz.func54, Tryz.ntmps54
 go_wp2_with (first | ((with_reducible refine gate_dst (N := 2) rfl ?_); refine box_event rfl (N := 2) rfl (cs := #[.int .i64 a0_0, .int .i64 a0_1, .int .u64 a0_2]) (t := 66) gz ?_; intro gb166 hg w5 hbox hb; have GE166 := gN bz hg; have BK166 := Aside0.mk hbox; replace HB := bN bz hb; clear hb hbox hg) | ((with_reducible refine gate_dst (N := 4) rfl ?_); refine box_event rfl (N := 4) rfl (cs := #[.string (⟨#[]⟩ : ByteArray), .int .i64 0]) (t := 42) gz ?_; intro gb167 hg w6 hbox hb; have GE167 := gN bz hg; have NB166_167 := lN (g := gb166) (cs := #[.int .i64 a0_0, .int .i64 a0_1, .int .u64 a0_2]) hg bk; have NB167_166 := rN (g := gb166) (cs := #[.int .i64 a0_0, .int .i64 a0_1, .int .u64 a0_2]) hg bk; replace BK166 := kN (g := gb166) (cs := #[.int .i64 a0_0, .int .i64 a0_1, .int .u64 a0_2]) hb bk; have BK167 := Aside0.mk hbox; replace HB := bN bz hb; clear hb hbox hg; have hnb7 := NB166_167.out; have hnc7 := NB167_166.out; obtain ⟨hcz8_0, hcz8_1, hcz8_2, hfz8_0, hfz8_1, hfz8_2⟩ := cz3 (W := w6) BK166) | ((with_reducible refine gate_callee (f := 43) rfl ?_); refine goesL_ (some 10) rfl rfl Tryz.func43 (by kernel_rfl) rfl #[.agg #[.int .i64 a0_0, .int .i64 a0_1, .int .u64 a0_2], .int .u64 a1] rfl lz ?_; (with_reducible refine (short_shape_value.calls a0_0 a0_1 a0_2 a1 t168 t169 _ A3.out).mono ?_); rintro e w9 ⟨rfl, hb⟩; refine ⟨_, rfl, ?_⟩; replace BK166 := kN (g := gb166) (cs := #[.int .i64 a0_0, .int .i64 a0_1, .int .u64 a0_2]) hb bk; replace BK167 := kN (g := gb167) (cs := #[.string (⟨#[]⟩ : ByteArray), .int .i64 0]) hb bk; replace HB := bN bz hb; (try clear hb); (try clear hb2); (try clear hk); (try clear hi)) | ((with_reducible refine gate_callee (f := 29) rfl ?_); refine goesL_ (some 13) rfl rfl Tryz.func29 (by kernel_rfl) rfl #[.int .u64 t168, .int .i64 t169] rfl lz ?_; (with_reducible refine (bigdec_Exact.calls k t168 t169 t170 t171 t172 _ A4.out).mono ?_); rintro e w10 ⟨rfl, hb⟩; refine ⟨_, rfl, ?_⟩; replace BK166 := kN (g := gb166) (cs := #[.int .i64 a0_0, .int .i64 a0_1, .int .u64 a0_2]) hb bk; replace BK167 := kN (g := gb167) (cs := #[.string (⟨#[]⟩ : ByteArray), .int .i64 0]) hb bk; replace HB := bN bz hb; (try clear hb); (try clear hb2); (try clear hk); (try clear hi)) | ((with_reducible refine gate_dst (N := 5) rfl ?_); refine box_event rfl (N := 5) rfl (cs := #[.string (⟨#[]⟩ : ByteArray), .int .i64 0]) (t := 42) gz ?_; intro gb173 hg w11 hbox hb; have GE173 := gN bz hg; have NB166_173 := lN (g := gb166) (cs := #[.int .i64 a0_0, .int .i64 a0_1, .int .u64 a0_2]) hg bk; have NB173_166 := rN (g := gb166) (cs := #[.int .i64 a0_0, .int .i64 a0_1, .int .u64 a0_2]) hg bk; have NB167_173 := lN (g := gb167) (cs := #[.string (⟨#[]⟩ : ByteArray), .int .i64 0]) hg bk; have NB173_167 := rN (g := gb167) (cs := #[.string (⟨#[]⟩ : ByteArray), .int .i64 0]) hg bk; replace BK166 := kN (g := gb166) (cs := #[.int .i64 a0_0, .int .i64 a0_1, .int .u64 a0_2]) hb bk; replace BK167 := kN (g := gb167) (cs := #[.string (⟨#[]⟩ : ByteArray), .int .i64 0]) hb bk; have BK173 := Aside0.mk hbox; replace HB := bN bz hb; clear hb hbox hg; have hnb12 := NB173_166.out; have hnc12 := NB166_173.out; have hnb13 := NB173_167.out; have hnc13 := NB167_173.out; obtain ⟨hcz14_0, hcz14_1, hfz14_0, hfz14_1⟩ := cz2 (W := w11) BK173; obtain ⟨hcz15_0, hcz15_1, hfz15_0, hfz15_1⟩ := cz2 (W := w11) BK167))
 refine bodyPost_ret (results_cell_row rfl _ _ gb167 42 #[.string t170, .int .i64 t171] (0, 0) _ rfl bk Tryz.underlying42 rfl (by kernel_rfl)) rfl ?_
 exact ⟨ez, bz⟩
end Go.Proofs.YtecpgdfnamkfdaaGreatDoor.Fn
end
section
namespace Go.Proofs.YtecpgdfnamkfdaaGreatDoor.Pure
open Go.RowKit Go.Proofs.YtecpgdfnamkfdaaGreatDoorW.PrintWords Go.Proofs.YtecpgdfnamkfdaaGreatDoor.Fn
set_option linter.unusedVariables false
set_option linter.unusedSimpArgs false
def exD (m : Nat) (e : Int) : List UInt8 × Int := decOf (m * eBase e ^ e.natAbs) (eLim e)
theorem exD_form (m : Nat) (e : Int) : InForm (exD m e).1 (exD m e).2 := inForm_decOf _ _
theorem exactS_exD (m : Nat) {e : Int} (h : -1200 ≤ e ∧ e ≤ 1200) : exactS m e = (S (exD m e).1, (exD m e).2, 0) := by
  unfold exactS
  rw [if_neg (by omega)]
  rfl
theorem exD_small {m : Nat} (hm : m < 18446744073709551616) {e : Int} (h : -1200 ≤ e ∧ e ≤ 1200) : (exD m e).1.length ≤ 1300 ∧ -1200 ≤ (exD m e).2 ∧ (exD m e).2 ≤ 1300 := by
  obtain ⟨T, hT⟩ : ∃ T : Nat, T = 1200 := ⟨_, rfl⟩
  have hb : eBase e ^ e.natAbs ≤ 10 ^ T := by
    refine Nat.le_trans (Nat.pow_le_pow_left (show eBase e ≤ 10 by unfold eBase; split <;> omega) _) (Nat.pow_le_pow_right (by omega) (by omega))
  have hlt : m * eBase e ^ e.natAbs < 10 ^ (20 + T) := by
    rw [Nat.pow_add]
    have h20 : (10 : Nat) ^ 20 = 100000000000000000000 := by decide
    generalize eBase e ^ e.natAbs = B at *
    have hp : 0 < 10 ^ T := Nat.pow_pos (by omega)
    generalize 10 ^ T = P at *
    exact Nat.lt_of_le_of_lt (Nat.mul_le_mul_left _ hb) (Nat.mul_lt_mul_of_pos_right (by omega) hp)
  have := decOf_bound hlt (eLim e)
  unfold exD
  unfold eLim at *
  split at this <;> rename_i c
  all_goals (first | rw [if_pos c] | rw [if_neg c]); omega
theorem cmp_ev {a b : List UInt8} {p q : Int} (ha : InForm a p) (hb : InForm b q) (h1 : a.length ≤ 2000 ∧ -5000 ≤ p ∧ p ≤ 5000) (h2 : b.length ≤ 2000 ∧ -5000 ≤ q ∧ q ≤ 5000) : Ev (fun k => short_cmp.f k (S a) p (S b) q) (cmpD a p b q) := by
  unfold short_cmp.f
  have h := cmpS_eq (S a) p (S b) q
  rw [cmpS_ok ha hb h1 h2] at h
  exact Ev.bind (f := fun _ bt => some bt.1) h (Ev.now _)
theorem fE_le (wide : Bool) {p : Nat} (hp : p ≤ ii wide) : fE (ff wide) p ≤ 2046 ∧ fM (ff wide) p < 9007199254740992 := by
  have h1 := fM_lt (ff wide) p
  have hd : p / 2 ^ ff wide ≤ ii wide / 2 ^ ff wide := Nat.div_le_div_right hp
  have h2 : ii wide / 2 ^ ff wide ≤ 2047 ∧ 2 ^ (ff wide + 1) ≤ 9007199254740992 := by cases wide <;> decide
  unfold fE
  omega
theorem ll_two (wide : Bool) : 149 ≤ ll wide ∧ ll wide ≤ 1074 := by cases wide <;> simp [ll]
theorem fEl (wide : Bool) {p : Nat} (hp : p ≤ ii wide) : -1074 ≤ (fE (ff wide) p : Int) - (ll wide : Int) ∧ (fE (ff wide) p : Int) - (ll wide : Int) ≤ 1100 := by
  have h1 := (fE_le wide hp).1
  have h2 := ll_two wide
  cases wide
  · have : ii false / 2 ^ ff false = 255 := by decide
    have hd : p / 2 ^ ff false ≤ ii false / 2 ^ ff false := Nat.div_le_div_right hp
    unfold fE at *
    omega
  · have : ll true = 1074 := rfl
    omega
theorem shapeExact_ev (wide : Bool) {p : Nat} (hp : p ≤ ii wide) :
    Ev (fun k => short_shape_exact.f k (ff wide : Int) (-(ll wide : Int)) (ii wide : Int) (p : Int)) (decS (exD (fM (ff wide) p) ((fE (ff wide) p : Int) - (ll wide : Int)))) := by
  unfold short_shape_exact.f
  have hi := ii_lt wide
  rw [value_eq wide p (by omega)]
  simp only [Option.bind_some]
  have h := exact_eq (fM (ff wide) p) ((fE (ff wide) p : Int) - (ll wide : Int)) (by have := (fE_le wide hp).2; omega)
  rw [exactS_exD _ (by have := fEl wide hp; omega)] at h
  exact Ev.bind (f := fun _ bt => some (bt.1, bt.2.1)) h (Ev.now _)
theorem cmpN_pos (a b : Nat) : cmpN a b > 0 ↔ b < a := by
  unfold cmpN
  by_cases h1 : a < b
  · rw [if_pos h1]; omega
  · rw [if_neg h1]
    by_cases h2 : b < a
    · rw [if_pos h2]; omega
    · rw [if_neg h2]; omega
theorem cmpN_zero (a b : Nat) : cmpN a b = 0 ↔ a = b := by
  unfold cmpN
  by_cases h1 : a < b
  · rw [if_pos h1]; omega
  · rw [if_neg h1]
    by_cases h2 : b < a
    · rw [if_pos h2]; omega
    · rw [if_neg h2]; omega
theorem cmpN_swap (a b : Nat) : cmpN a b = - cmpN b a := by
  unfold cmpN
  by_cases h1 : a < b
  · rw [if_pos h1, if_neg (by omega), if_pos h1]
  · rw [if_neg h1]
    by_cases h2 : b < a
    · rw [if_pos h2, if_pos h2]; rfl
    · rw [if_neg h2, if_neg h2, if_neg h1]; rfl
theorem rd_at (wide : Bool) {X p : Nat} (h : fFloor (ff wide) (ii wide) X (2 * CC) p) : rdX wide X = if p = ii wide then ii wide else if X > (fW (ff wide) p + fW (ff wide) (p + 1)) * CC ∨ (X = (fW (ff wide) p + fW (ff wide) (p + 1)) * CC ∧ p % 2 = 1) then p + 1 else p := by
  have e := fFloor_one (by have := CC_pos; omega) (flo_spec wide X) h
  unfold rdX
  rw [e]
  unfold fNear
  by_cases c : p = ii wide
  · rw [if_pos c, if_pos c]
  · rw [if_neg c, if_neg c]
    have hu : fUp (ff wide) X (2 * CC) p ↔ (X > (fW (ff wide) p + fW (ff wide) (p + 1)) * CC ∨ (X = (fW (ff wide) p + fW (ff wide) (p + 1)) * CC ∧ p % 2 = 1)) := by
      unfold fUp
      rw [show (fW (ff wide) p + fW (ff wide) (p + 1)) * (2 * CC) = 2 * ((fW (ff wide) p + fW (ff wide) (p + 1)) * CC) by rw [Nat.mul_left_comm]]
      omega
    by_cases c2 : fUp (ff wide) X (2 * CC) p
    · rw [if_pos c2, if_pos (hu.1 c2)]
    · rw [if_neg c2, if_neg (fun h => c2 (hu.2 h))]
end Go.Proofs.YtecpgdfnamkfdaaGreatDoor.Pure
end
section
namespace Go.Proofs.YtecpgdfnamkfdaaGreatDoor.Pure
open Go.RowKit Go.Proofs.YtecpgdfnamkfdaaGreatDoorW.PrintWords Go.Proofs.YtecpgdfnamkfdaaGreatDoor.Fn
set_option linter.unusedVariables false
set_option linter.unusedSimpArgs false
def Nm (n K : Nat) (xs : List Int) : Prop := InB 10 xs ∧ lv 10 xs = n ∧ xs.length ≤ K
def Tab (n K : Nat) (tabs : List (List Int)) : Prop := ∀ i : Nat, i < tabs.length → Nm (n * 2 ^ i) (K + i) (rd_L3 tabs (i : Int))
theorem rd_L2_append (tabs : List (List Int)) (y : List Int) (i : Nat) (h : i < tabs.length + 1) : rd_L3 (tabs ++ [y]) (i : Int) = if i < tabs.length then rd_L3 tabs (i : Int) else y := by
  unfold rd_L3
  rw [Int.toNat_natCast, List.getD_eq_getElem?_getD, List.getD_eq_getElem?_getD]
  by_cases c : i < tabs.length
  · rw [if_pos c, List.getElem?_append_left c]
  · rw [if_neg c]
    obtain rfl : i = tabs.length := by omega
    simp
theorem Tab.snoc {n K : Nat} {tabs : List (List Int)} {y : List Int} (h : Tab n K tabs) (hy : Nm (n * 2 ^ tabs.length) (K + tabs.length) y) : Tab n K (tabs ++ [y]) := by
  intro i hi
  rw [List.length_append, List.length_singleton] at hi
  rw [rd_L2_append tabs y i hi]
  by_cases c : i < tabs.length
  · rw [if_pos c]; exact h i c
  · rw [if_neg c]
    obtain rfl : i = tabs.length := by omega
    exact hy
end Go.Proofs.YtecpgdfnamkfdaaGreatDoor.Pure
end
section
namespace Go.Proofs.YtecpgdfnamkfdaaGreatDoor.Pure
open Go.RowKit Go.Proofs.YtecpgdfnamkfdaaGreatDoorW.PrintWords Go.Proofs.YtecpgdfnamkfdaaGreatDoor.Fn
set_option linter.unusedVariables false
set_option linter.unusedSimpArgs false
theorem ff_two (wide : Bool) : 23 ≤ ff wide ∧ ff wide ≤ 52 := by cases wide <;> simp [ff]
end Go.Proofs.YtecpgdfnamkfdaaGreatDoor.Pure
end
section
namespace Go.Proofs.YtecpgdfnamkfdaaGreatDoor.Pure
open Go.RowKit Go.Proofs.YtecpgdfnamkfdaaGreatDoorW.PrintWords Go.Proofs.YtecpgdfnamkfdaaGreatDoor.Fn
set_option linter.unusedVariables false
set_option linter.unusedSimpArgs false
def loX (wide : Bool) (p : Nat) : Nat := (fW (ff wide) (p - 1) + fW (ff wide) p) * CC
def hiX (wide : Bool) (p : Nat) : Nat := (fW (ff wide) p + fW (ff wide) (p + 1)) * CC
def inX (wide : Bool) (p X : Nat) : Prop := (loX wide p < X ∧ X < hiX wide p) ∨ (p % 2 = 0 ∧ loX wide p ≤ X ∧ X ≤ hiX wide p)
theorem mid_between {u v C : Nat} (h : u < v) (hC : 0 < C) : u * (2 * C) < (u + v) * C ∧ (u + v) * C < v * (2 * C) := by
  have e1 : u * (2 * C) = u * C + u * C := by rw [Nat.mul_left_comm]; omega
  have e2 : v * (2 * C) = v * C + v * C := by rw [Nat.mul_left_comm]; omega
  have h3 : u * C < v * C := Nat.mul_lt_mul_of_pos_right h hC
  rw [e1, e2, Nat.add_mul]
  omega
theorem inX_iff (wide : Bool) {p : Nat} (hp : 0 < p) (hi : p < ii wide) (X : Nat) : inX wide p X ↔ rdX wide X = p := by
  have hC := CC_pos
  obtain ⟨a, rfl⟩ : ∃ a, p = a + 1 := ⟨p - 1, by omega⟩
  have m1 := mid_between (fW_lt (f := ff wide) (Nat.lt_succ_self a)) hC
  have m2 := mid_between (fW_lt (f := ff wide) (Nat.lt_succ_self (a + 1))) hC
  have hat := fun q => @rd_at wide X q
  have hfl := flo_spec wide X
  have hun := fun q (h : fFloor (ff wide) (ii wide) X (2 * CC) q) => fFloor_one (by omega) hfl h
  unfold inX loX hiX
  rw [Nat.add_sub_cancel]
  simp only [Nat.succ_eq_add_one] at m1 m2
  constructor
  · intro h
    by_cases c : fW (ff wide) (a + 1) * (2 * CC) ≤ X
    · have hf : fFloor (ff wide) (ii wide) X (2 * CC) (a + 1) := ⟨by omega, c, fun _ => by omega⟩
      rw [hat _ hf, if_neg (by omega), if_neg (by omega)]
    · have hf : fFloor (ff wide) (ii wide) X (2 * CC) a := ⟨by omega, by omega, fun _ => by omega⟩
      rw [hat _ hf, if_neg (by omega), if_pos (by omega)]
  · intro h
    have hr := hat _ hfl
    rw [h] at hr
    by_cases c1 : flo wide X = ii wide
    · rw [if_pos c1] at hr
      omega
    · rw [if_neg c1] at hr
      obtain ⟨g1, g2, g3⟩ := hfl
      have g3' := g3 (by omega)
      by_cases c2 : X > (fW (ff wide) (flo wide X) + fW (ff wide) (flo wide X + 1)) * CC ∨ (X = (fW (ff wide) (flo wide X) + fW (ff wide) (flo wide X + 1)) * CC ∧ flo wide X % 2 = 1)
      · rw [if_pos c2] at hr
        have e : flo wide X = a := by omega
        rw [e] at c2 g2 g3'
        omega
      · rw [if_neg c2] at hr
        have e : flo wide X = a + 1 := by omega
        rw [e] at c2 g2 g3'
        omega
theorem fE_pred {f p : Nat} (hp : 0 < p) (h : fM f p ≠ 2 ^ f ∨ fE f p = 0) : fE f (p - 1) = fE f p := by
  obtain ⟨e1, e2⟩ := fOf f p
  have hlt := fM_lt f p
  have h2 := two_pos f
  by_cases c : fE f p = 0
  · rw [c, Nat.zero_mul, Nat.zero_add] at e1
    have := (fParts f 0 (p - 1) (by omega) (.inr rfl)).2
    rw [Nat.zero_mul, Nat.zero_add] at this
    rw [this, c]
  · have h3 := h.resolve_right c
    have h4 := e2.resolve_right c
    have := (fParts f (fE f p) (fM f p - 1) (by omega) (.inl (by omega))).2
    rw [show fE f p * 2 ^ f + (fM f p - 1) = p - 1 by omega] at this
    exact this
theorem fE_pred2 {f p : Nat} (h : fM f p = 2 ^ f) (h2 : fE f p ≠ 0) : fE f (p - 1) + 1 = fE f p := by
  obtain ⟨e1, e2⟩ := fOf f p
  have hp := two_pos f
  obtain ⟨k, hk⟩ := Nat.exists_eq_succ_of_ne_zero h2
  rw [Nat.succ_eq_add_one] at hk
  have := (fParts f k (2 ^ (f + 1) - 1) (by rw [Nat.pow_succ]; omega) (.inl (by rw [Nat.pow_succ]; omega))).2
  rw [hk, h, Nat.add_mul, Nat.one_mul] at e1
  rw [show k * 2 ^ f + (2 ^ (f + 1) - 1) = p - 1 by rw [Nat.pow_succ]; omega] at this
  rw [this, hk]
theorem fW_pred {f p : Nat} (hp : 0 < p) : fW f (p - 1) + 2 ^ fE f (p - 1) = fW f p := by
  have := fW_step f (p - 1)
  rw [Nat.sub_add_cancel hp] at this
  exact this.symm
theorem fM_pos {f p : Nat} (hp : 0 < p) : 0 < fM f p := by
  obtain ⟨e1, e2⟩ := fOf f p
  have h2 := two_pos f
  rcases e2 with h | h
  · omega
  · rw [h, Nat.zero_mul, Nat.zero_add] at e1
    omega
theorem cmp_hi (wide : Bool) (p n : Nat) (x : Int) (hx : -(vv : Int) ≤ x) :
    cmpD (exD (2 * fM (ff wide) p + 1) ((fE (ff wide) p : Int) - (ll wide : Int) - 1)).1 (exD (2 * fM (ff wide) p + 1) ((fE (ff wide) p : Int) - (ll wide : Int) - 1)).2 (decOf n x).1 (decOf n x).2 = cmpN (hiX wide p) (dX wide n x) := by
  unfold exD
  rw [exact_cmp (2 * fM (ff wide) p + 1) n (uu wide) vv _ x (by unfold uu; omega) (by have := ll_le wide; have := vv_eq; unfold uu; omega) hx]
  unfold dX hiX
  congr 1
  have e : ((fE (ff wide) p : Int) - (ll wide : Int) - 1 + (uu wide : Int)).toNat = fE (ff wide) p := by unfold uu; omega
  rw [e, fW_step]
  unfold fW CC
  congr 1
  rw [Nat.add_mul, Nat.one_mul, Nat.mul_assoc]
  omega
theorem cmp_lo1 (wide : Bool) {p : Nat} (hp : 0 < p) (h : fM (ff wide) p ≠ 2 ^ ff wide ∨ fE (ff wide) p = 0) (n : Nat) (x : Int) (hx : -(vv : Int) ≤ x) :
    cmpD (exD (2 * fM (ff wide) p - 1) ((fE (ff wide) p : Int) - (ll wide : Int) - 1)).1 (exD (2 * fM (ff wide) p - 1) ((fE (ff wide) p : Int) - (ll wide : Int) - 1)).2 (decOf n x).1 (decOf n x).2 = cmpN (loX wide p) (dX wide n x) := by
  have h1 := fW_pred (f := ff wide) hp
  have h2 := fM_pos (f := ff wide) hp
  rw [fE_pred hp h] at h1
  unfold exD
  rw [exact_cmp (2 * fM (ff wide) p - 1) n (uu wide) vv _ x (by unfold uu; omega) (by have := ll_le wide; have := vv_eq; unfold uu; omega) hx]
  unfold dX loX
  congr 1
  have e : ((fE (ff wide) p : Int) - (ll wide : Int) - 1 + (uu wide : Int)).toNat = fE (ff wide) p := by unfold uu; omega
  rw [e]
  have h3 : fW (ff wide) p = fM (ff wide) p * 2 ^ fE (ff wide) p := rfl
  have h4 : (2 * fM (ff wide) p - 1) * 2 ^ fE (ff wide) p + 2 ^ fE (ff wide) p = 2 * (fM (ff wide) p * 2 ^ fE (ff wide) p) := by
    rw [← Nat.succ_mul, ← Nat.mul_assoc]
    congr 1
    omega
  unfold CC
  congr 1
  omega
theorem cmp_lo2 (wide : Bool) {p : Nat} (hp : 0 < p) (h : fM (ff wide) p = 2 ^ ff wide) (h0 : fE (ff wide) p ≠ 0) (n : Nat) (x : Int) (hx : -(vv : Int) ≤ x) :
    cmpD (exD (4 * fM (ff wide) p - 1) ((fE (ff wide) p : Int) - (ll wide : Int) - 2)).1 (exD (4 * fM (ff wide) p - 1) ((fE (ff wide) p : Int) - (ll wide : Int) - 2)).2 (decOf n x).1 (decOf n x).2 = cmpN (loX wide p) (dX wide n x) := by
  have h1 := fW_pred (f := ff wide) hp
  have h2 := fM_pos (f := ff wide) hp
  have h5 := fE_pred2 h h0
  obtain ⟨k, hk⟩ : ∃ k, fE (ff wide) (p - 1) = k := ⟨_, rfl⟩
  rw [hk] at h1 h5
  unfold exD
  rw [exact_cmp (4 * fM (ff wide) p - 1) n (uu wide) vv _ x (by unfold uu; omega) (by have := ll_le wide; have := vv_eq; unfold uu; omega) hx]
  unfold dX loX
  congr 1
  have e : ((fE (ff wide) p : Int) - (ll wide : Int) - 2 + (uu wide : Int)).toNat = k := by unfold uu; omega
  rw [e]
  have h3 : fW (ff wide) p = fM (ff wide) p * 2 ^ (k + 1) := by rw [h5]; rfl
  have h4 : (4 * fM (ff wide) p - 1) * 2 ^ k + 2 ^ k = 2 * (fM (ff wide) p * 2 ^ (k + 1)) := by
    rw [← Nat.succ_mul, Nat.pow_succ]
    rw [show (4 * fM (ff wide) p - 1).succ = 4 * fM (ff wide) p by omega]
    rw [Nat.mul_comm (2 ^ k) 2, ← Nat.mul_assoc, ← Nat.mul_assoc]
    congr 1
    omega
  unfold CC
  congr 1
  omega
theorem span_ev {lo hi d : List UInt8 × Int} {L H X : Nat} (wide : Bool) (p : Nat) (ends : Bool) (he : ends = decide (p % 2 = 0)) (hL : L = loX wide p) (hH : H = hiX wide p) (f1 : InForm lo.1 lo.2) (f2 : InForm hi.1 hi.2) (f3 : InForm d.1 d.2)
    (b1 : lo.1.length ≤ 2000 ∧ -5000 ≤ lo.2 ∧ lo.2 ≤ 5000) (b2 : hi.1.length ≤ 2000 ∧ -5000 ≤ hi.2 ∧ hi.2 ≤ 5000) (b3 : d.1.length ≤ 2000 ∧ -5000 ≤ d.2 ∧ d.2 ≤ 5000)
    (c1 : cmpD lo.1 lo.2 d.1 d.2 = cmpN L X) (c2 : cmpD hi.1 hi.2 d.1 d.2 = cmpN H X) (t : Bool) (ht : t = true ↔ inX wide p X) :
    Ev (fun k => short_span_in.f k (S lo.1) lo.2 (S hi.1) hi.2 ends (S d.1) d.2) t := by
  have k1 := cmp_ev f3 f1 b3 b1
  have k2 := cmp_ev f3 f2 b3 b2
  rw [cmpD_swap, c1, ← cmpN_swap] at k1
  rw [cmpD_swap, c2, ← cmpN_swap] at k2
  unfold short_span_in.f
  refine Ev.bind k1 (Ev.bind k2 (Ev.congr (fun k => ?_) (Ev.now _)))
  unfold inX at ht
  rw [← hL, ← hH] at ht
  have p1 := cmpN_pos X L
  have p2 := cmpN_zero X L
  have p3 := cmpN_pos X H
  have p4 := cmpN_zero X H
  generalize cmpN X L = u at *
  generalize cmpN X H = v at *
  have q1 : u ≥ 0 ↔ L ≤ X := by omega
  have q2 : v ≤ 0 ↔ X ≤ H := by omega
  have q3 : v < 0 ↔ X < H := by omega
  have hee : ends = true ↔ p % 2 = 0 := by rw [he]; exact decide_eq_true_iff
  have key : (if u > 0 then (if v < 0 then some true else (if ends = true then (if u ≥ 0 then some (decide (v ≤ 0)) else some false) else some false)) else (if ends = true then (if u ≥ 0 then some (decide (v ≤ 0)) else some false) else some false)) = some (decide ((u > 0 ∧ v < 0) ∨ (ends = true ∧ u ≥ 0 ∧ v ≤ 0))) := by
    by_cases a1 : u > 0
    · rw [if_pos a1]
      by_cases a2 : v < 0
      · rw [if_pos a2, decide_eq_true (.inl ⟨a1, a2⟩)]
      · rw [if_neg a2]
        by_cases a3 : ends = true
        · rw [if_pos a3, if_pos (by omega)]
          congr 1
          exact decide_eq_decide.2 ⟨fun h => .inr ⟨a3, by omega, h⟩, fun h => h.elim (fun h => absurd h.2 a2) (fun h => h.2.2)⟩
        · rw [if_neg a3, decide_eq_false (fun h => h.elim (fun h => a2 h.2) (fun h => a3 h.1))]
    · rw [if_neg a1]
      by_cases a3 : ends = true
      · rw [if_pos a3]
        by_cases a4 : u ≥ 0
        · rw [if_pos a4]
          congr 1
          exact decide_eq_decide.2 ⟨fun h => .inr ⟨a3, a4, h⟩, fun h => h.elim (fun h => absurd h.1 a1) (fun h => h.2.2)⟩
        · rw [if_neg a4, decide_eq_false (fun h => h.elim (fun h => a1 h.1) (fun h => a4 h.2.1))]
      · rw [if_neg a3, decide_eq_false (fun h => h.elim (fun h => a1 h.1) (fun h => a3 h.1))]
  rw [key]
  congr 1
  rw [Bool.eq_iff_iff, ht, decide_eq_true_iff, p1, q3, q1, q2, hee]
end Go.Proofs.YtecpgdfnamkfdaaGreatDoor.Pure
end
section
namespace Go.Proofs.YtecpgdfnamkfdaaGreatDoor.Fn
open Go.RowKit Go.Proofs.YtecpgdfnamkfdaaGreatDoorW.PrintWords Go.Proofs.YtecpgdfnamkfdaaGreatDoorW.PrintLast Go.Proofs.YtecpgdfnamkfdaaGreatDoorW.PrintMore
attribute [local go_sem] fnW_0 fnW_1 fnW_2 fnW_3 fnW_4 fnW_5 fnW_guard fnW_eql max2_int min2_int max_two min_two
set_option linter.unusedVariables false
set_option linter.unusedSimpArgs false
mutual
def short_Shortest.j0 : Nat → Int → Int → Int → Bool → Int → Int → Int → ByteArray → Int → ByteArray → Int → Bool → Option (ByteArray × Int × Int)
 | 0, _, _, _, _, _, _, _, _, _, _, _, _ => none
 | k + 1, x8, x9, x10, x79, x337000, x337001, x337002, x340000, x340001, x340002, x340003, x340004 => if x79 = true then ((bigdec_Exact.f k (IntKind.u64.wrap ((IntKind.u64.wrap (4 * x9)) - 1)) (wrap64 (x10 - 2))).bind fun bt346 => (short_Shortest.j1 k x8 x337000 x337001 x337002 bt346.1 bt346.2.1 x340002 x340003 x340004)) else (short_Shortest.j1 k x8 x337000 x337001 x337002 x340000 x340001 x340002 x340003 x340004)
def short_Shortest.j1 : Nat → Int → Int → Int → Int → ByteArray → Int → ByteArray → Int → Bool → Option (ByteArray × Int × Int)
 | 0, _, _, _, _, _, _, _, _, _ => none
 | k + 1, x8, x337000, x337001, x337002, x340000, x340001, x340002, x340003, x340004 => (short_shape_exact.f k x337000 x337001 x337002 x8).bind fun bt349 => (short_Shortest.l0 k 1 bt349.1 bt349.2 x340000 x340001 x340002 x340003 x340004)
def short_Shortest.l0 : Nat → Int → ByteArray → Int → ByteArray → Int → ByteArray → Int → Bool → Option (ByteArray × Int × Int)
 | 0, _, _, _, _, _, _, _, _ => none
 | k + 1, x14, x352000, x352001, x353000, x353001, x353002, x353003, x353004 => (short_best.f k x352000 x352001 x14 x353000 x353001 x353002 x353003 x353004).bind fun bt353 => (if bt353.2.2 = true then (some (bt353.1, bt353.2.1, 0)) else (short_Shortest.l0 k (wrap64 (x14 + 1)) x352000 x352001 x353000 x353001 x353002 x353003 x353004))
end
def short_Shortest.f (k : Nat) (a0 : Int) (a1 : Int) : Option (ByteArray × Int × Int) := (short_of.f a1).bind fun bt332 => (if bt332.2.2.2 = true then (if 0 ≤ (wrap64 (a1 - 1)) then (if (Go.bits .and .u64 a0 (IntKind.u64.wrap ((shl .u64 1 (wrap64 (a1 - 1))) - 1))) ≥ bt332.2.2.1 then (some ((⟨#[]⟩ : ByteArray), 0, 1)) else ((short_shape_value.f bt332.1 bt332.2.1 bt332.2.2.1 (Go.bits .and .u64 a0 (IntKind.u64.wrap ((shl .u64 1 (wrap64 (a1 - 1))) - 1)))).bind fun bt337 => (if bt337.1 = 0 then (some ((⟨#[]⟩ : ByteArray), 0, 0)) else ((bigdec_Exact.f k (IntKind.u64.wrap ((IntKind.u64.wrap (2 * bt337.1)) + 1)) (wrap64 (bt337.2 - 1))).bind fun bt340 => ((bigdec_Exact.f k (IntKind.u64.wrap ((IntKind.u64.wrap (2 * bt337.1)) - 1)) (wrap64 (bt337.2 - 1))).bind fun bt343 => (if 0 ≤ bt332.1 then (if bt337.1 = (shl .u64 1 bt332.1) then (short_Shortest.j0 k (Go.bits .and .u64 a0 (IntKind.u64.wrap ((shl .u64 1 (wrap64 (a1 - 1))) - 1))) bt337.1 bt337.2 (decide (bt337.2 > bt332.2.1)) bt332.1 bt332.2.1 bt332.2.2.1 bt343.1 bt343.2.1 bt340.1 bt340.2.1 ((Int.tmod bt337.1 2) == 0)) else (short_Shortest.j0 k (Go.bits .and .u64 a0 (IntKind.u64.wrap ((shl .u64 1 (wrap64 (a1 - 1))) - 1))) bt337.1 bt337.2 false bt332.1 bt332.2.1 bt332.2.2.1 bt343.1 bt343.2.1 bt340.1 bt340.2.1 ((Int.tmod bt337.1 2) == 0))) else (none))))))) else (none)) else (some ((⟨#[]⟩ : ByteArray), 0, 1)))
set_option maxHeartbeats 8000000 in
set_option maxRecDepth 100000 in
theorem short_Shortest.calls (k : Nat) (a0 : Int) (a1 : Int) (r1 : ByteArray) (r2 : Int) (r3 : Int) (w : World) (h : short_Shortest.f k a0 a1 = some (r1, r2, r3)) :
  Calls Tryz.prog 35 #[.int .u64 a0, .int .i64 a1] w fun e w' => e = .returned (.tuple #[.agg #[.string r1, .int .i64 r2], .int .i64 r3]) ∧ Below w.heap.size w w' := by
 have hu42 := Tryz.underlying42
 have hu66 := Tryz.underlying66
 have hu88 := Tryz.underlying88
 have HB := Aside0.mk (Below.refl w.heap.size w)
 have H : ((short_of.f a1).bind fun bt332 => (if bt332.2.2.2 = true then (if 0 ≤ (wrap64 (a1 - 1)) then (if (Go.bits .and .u64 a0 (IntKind.u64.wrap ((shl .u64 1 (wrap64 (a1 - 1))) - 1))) ≥ bt332.2.2.1 then (some ((⟨#[]⟩ : ByteArray), 0, 1)) else ((short_shape_value.f bt332.1 bt332.2.1 bt332.2.2.1 (Go.bits .and .u64 a0 (IntKind.u64.wrap ((shl .u64 1 (wrap64 (a1 - 1))) - 1)))).bind fun bt337 => (if bt337.1 = 0 then (some ((⟨#[]⟩ : ByteArray), 0, 0)) else ((bigdec_Exact.f k (IntKind.u64.wrap ((IntKind.u64.wrap (2 * bt337.1)) + 1)) (wrap64 (bt337.2 - 1))).bind fun bt340 => ((bigdec_Exact.f k (IntKind.u64.wrap ((IntKind.u64.wrap (2 * bt337.1)) - 1)) (wrap64 (bt337.2 - 1))).bind fun bt343 => (if 0 ≤ bt332.1 then (if bt337.1 = (shl .u64 1 bt332.1) then (short_Shortest.j0 k (Go.bits .and .u64 a0 (IntKind.u64.wrap ((shl .u64 1 (wrap64 (a1 - 1))) - 1))) bt337.1 bt337.2 (decide (bt337.2 > bt332.2.1)) bt332.1 bt332.2.1 bt332.2.2.1 bt343.1 bt343.2.1 bt340.1 bt340.2.1 ((Int.tmod bt337.1 2) == 0)) else (short_Shortest.j0 k (Go.bits .and .u64 a0 (IntKind.u64.wrap ((shl .u64 1 (wrap64 (a1 - 1))) - 1))) bt337.1 bt337.2 false bt332.1 bt332.2.1 bt332.2.2.1 bt343.1 bt343.2.1 bt340.1 bt340.2.1 ((Int.tmod bt337.1 2) == 0))) else (none))))))) else (none)) else (some ((⟨#[]⟩ : ByteArray), 0, 1)))) = some (r1, r2, r3) := h
 clear h
 replace H := bs H
 obtain ⟨⟨t332, t333, t334, t335⟩, A3, H⟩ := H
 dsimp only at H
 go_enter Tryz.func35, Tryz.ntmps35
 go_upto_if 23 with (first | ((with_reducible refine gate_dst (N := 4) rfl ?_); refine box_event rfl (N := 4) rfl (cs := #[.string (⟨#[]⟩ : ByteArray), .int .i64 0]) (t := 42) gz ?_; intro gb331 hg w4 hbox hb; have GE331 := gN bz hg; have BK331 := Aside0.mk hbox; replace HB := bN bz hb; clear hb hbox hg) | ((with_reducible refine gate_callee (f := 42) rfl ?_); refine goesL_ (some 19) rfl rfl Tryz.func42 (by kernel_rfl) rfl #[.int .i64 a1] rfl lz ?_; (with_reducible refine (short_of.calls a1 t332 t333 t334 t335 _ A3.out).mono ?_); rintro e w5 ⟨rfl, hb⟩; refine ⟨_, rfl, ?_⟩; replace BK331 := kN (g := gb331) (cs := #[.string (⟨#[]⟩ : ByteArray), .int .i64 0]) hb bk; replace HB := bN bz hb; (try clear hb); (try clear hb2); (try clear hk); (try clear hi)) | ((with_reducible refine gate_dst (N := 6) rfl ?_); refine box_event rfl (N := 6) rfl (cs := #[.int .i64 0, .int .i64 0, .int .u64 0]) (t := 66) gz ?_; intro gb336 hg w6 hbox hb; have GE336 := gN bz hg; have NB331_336 := lN (g := gb331) (cs := #[.string (⟨#[]⟩ : ByteArray), .int .i64 0]) hg bk; have NB336_331 := rN (g := gb331) (cs := #[.string (⟨#[]⟩ : ByteArray), .int .i64 0]) hg bk; replace BK331 := kN (g := gb331) (cs := #[.string (⟨#[]⟩ : ByteArray), .int .i64 0]) hb bk; have BK336 := Aside0.mk hbox; replace HB := bN bz hb; clear hb hbox hg; have hnb7 := NB336_331.out; have hnc7 := NB331_336.out; obtain ⟨hcz8_0, hcz8_1, hcz8_2, hfz8_0, hfz8_1, hfz8_2⟩ := cz3 (W := w6) BK336))
 (try simp only [Act.put, List.setIfInBounds_toArray, List.set_cons_zero, List.set_cons_succ])
 by_cases c9 : t335 = true
 ·subst c9
  replace H := hT H
  obtain ⟨ji10, hji10⟩ : ∃ j_ : Int, (wrap64 (a1 - 1)) = j_ := ⟨_, rfl⟩
  (first | rw [hji10] at H | simp only [hji10] at H)
  have hji10w : (IntKind.i64.wrap (a1 - 1)) = ji10 := (i64_w _).trans hji10
  by_cases c11 : 0 ≤ (ji10)
  ·replace H := hE H c11
   have c11b0 := eq_true c11
   have c11b1 : decide (0 ≤ (ji10)) = true := decide_eq_true c11
   clear c11
   obtain ⟨ji12, hji12⟩ : ∃ j_ : Int, (shl .u64 1 (ji10)) = j_ := ⟨_, rfl⟩
   (first | rw [hji12] at H | simp only [hji12] at H)
   have hji12_ : (IntKind.u64.wrap (1 * 2 ^ min (ji10).toNat 64)) = ji12 := hji12
   have hji12z : (ji10) ≤ 64 → (IntKind.u64.wrap (1 * 2 ^ (ji10).toNat)) = ji12 := shl_small hji12
   have hji12u : (IntKind.u64.wrap (2 ^ min (ji10).toNat 64)) = ji12 := by have h_ := hji12_; rw [Int.one_mul] at h_; exact h_
   have hji12v : (ji10) ≤ 64 → (IntKind.u64.wrap (2 ^ (ji10).toNat)) = ji12 := fun hle_ => by have h_ := hji12z hle_; rw [Int.one_mul] at h_; exact h_
   by_cases c13 : (Go.bits .and .u64 a0 (IntKind.u64.wrap ((ji12) - 1))) ≥ t334
   ·replace H := hE H c13
    have c13b0 : decide (t334 ≤ (Go.bits .and .u64 a0 (IntKind.u64.wrap ((ji12) - 1)))) = true := decide_eq_true c13
    clear c13
    (first | rw [c13b0] | (simp only [i64_w, i32_w]; rw [c13b0]) | skip)
    simp only [Option.some.injEq, Prod.mk.injEq] at H
    obtain ⟨rfl, rfl, rfl⟩ := H
    have hnb14 := NB336_331.out
    have hnc14 := NB331_336.out
    obtain ⟨hcz15_0, hcz15_1, hcz15_2, hfz15_0, hfz15_1, hfz15_2⟩ := cz3 (W := w6) BK336
    obtain ⟨hcz16_0, hcz16_1, hfz16_0, hfz16_1⟩ := cz2 (W := w6) BK331
    go_wp2
    refine bodyPost_ret (results_ct rfl _ _ gb331 42 #[.string (⟨#[]⟩ : ByteArray), .int .i64 0] (0, 0) _ rfl bk Tryz.underlying42 rfl (by kernel_rfl)) rfl ?_
    exact ⟨by first | rfl | (simp [errW_none, errW_some] <;> rfl) | (simp only [← hji10, ← hji12]; first | rfl | (simp [errW_none, errW_some] <;> rfl)) | (simp [*, errW_none, errW_some] <;> rfl), bz⟩
   ·replace H := hN H c13
    have c13b0 : decide (t334 ≤ (Go.bits .and .u64 a0 (IntKind.u64.wrap ((ji12) - 1)))) = false := decide_eq_false c13
    clear c13
    (first | rw [c13b0] | (simp only [i64_w, i32_w]; rw [c13b0]) | skip)
    replace H := bs H
    obtain ⟨⟨t337, t338⟩, A17, H⟩ := H
    dsimp only at H
    have hnb18 := NB336_331.out
    have hnc18 := NB331_336.out
    obtain ⟨hcz19_0, hcz19_1, hcz19_2, hfz19_0, hfz19_1, hfz19_2⟩ := cz3 (W := w6) BK336
    go_upto_if 43 with (first | ((with_reducible refine gate_callee (f := 43) rfl ?_); refine goesL_ (some 39) rfl rfl Tryz.func43 (by kernel_rfl) rfl #[.agg #[.int .i64 t332, .int .i64 t333, .int .u64 t334], .int .u64 (Go.bits .and .u64 a0 (IntKind.u64.wrap ((ji12) - 1)))] rfl (by (try simp only [List.map_toArray, List.map_cons, List.map_nil]); first | done | (simp only [hji12]; rfl) | rfl | (simp only [List.length_drop, List.length_take]; rfl)) ?_; (with_reducible refine (short_shape_value.calls t332 t333 t334 (Go.bits .and .u64 a0 (IntKind.u64.wrap ((ji12) - 1))) t337 t338 _ A17.out).mono ?_); rintro e w20 ⟨rfl, hb⟩; refine ⟨_, rfl, ?_⟩; replace BK331 := kN (g := gb331) (cs := #[.string (⟨#[]⟩ : ByteArray), .int .i64 0]) hb bk; replace BK336 := kN (g := gb336) (cs := #[.int .i64 t332, .int .i64 t333, .int .u64 t334]) hb bk; replace HB := bN bz hb; (try clear hb); (try clear hb2); (try clear hk); (try clear hi)))
    (try simp only [Act.put, List.setIfInBounds_toArray, List.set_cons_zero, List.set_cons_succ])
    by_cases c21 : t337 = 0
    ·replace H := hE H c21
     obtain ⟨c21b0, c21b1⟩ := eT c21
     clear c21
     try first | rw [c21b0] | rw [c21b1]
     simp only [Option.some.injEq, Prod.mk.injEq] at H
     obtain ⟨rfl, rfl, rfl⟩ := H
     have hnb22 := NB331_336.out
     have hnc22 := NB336_331.out
     obtain ⟨hcz23_0, hcz23_1, hfz23_0, hfz23_1⟩ := cz2 (W := w20) BK331
     go_wp2
     refine bodyPost_ret (results_ct rfl _ _ gb331 42 #[.string (⟨#[]⟩ : ByteArray), .int .i64 0] (0, 0) _ rfl bk Tryz.underlying42 rfl (by kernel_rfl)) rfl ?_
     exact ⟨by first | rfl | (simp [errW_none, errW_some] <;> rfl) | (simp only [← hji10, ← hji12]; first | rfl | (simp [errW_none, errW_some] <;> rfl)) | (simp [*, errW_none, errW_some] <;> rfl), bz⟩
    ·replace H := hN H c21
     obtain ⟨c21b0, c21b1⟩ := eF c21
     try first | rw [c21b0] | rw [c21b1]
     replace H := bs H
     obtain ⟨⟨t340, t341, t342⟩, A24, H⟩ := H
     dsimp only at H
     replace H := bs H
     obtain ⟨⟨t343, t344, t345⟩, A25, H⟩ := H
     dsimp only at H
     have HC26 := Aside0.mk H
     clear H
     go_upto_region 13 with (first | ((with_reducible refine gate_dst (N := 11) rfl ?_); refine box_event rfl (N := 11) rfl (cs := #[.string (⟨#[]⟩ : ByteArray), .int .i64 0, .string (⟨#[]⟩ : ByteArray), .int .i64 0, .bool false]) (t := 88) gz ?_; intro gb339 hg w27 hbox hb; have GE339 := gN bz hg; have NB331_339 := lN (g := gb331) (cs := #[.string (⟨#[]⟩ : ByteArray), .int .i64 0]) hg bk; have NB339_331 := rN (g := gb331) (cs := #[.string (⟨#[]⟩ : ByteArray), .int .i64 0]) hg bk; have NB336_339 := lN (g := gb336) (cs := #[.int .i64 t332, .int .i64 t333, .int .u64 t334]) hg bk; have NB339_336 := rN (g := gb336) (cs := #[.int .i64 t332, .int .i64 t333, .int .u64 t334]) hg bk; replace BK331 := kN (g := gb331) (cs := #[.string (⟨#[]⟩ : ByteArray), .int .i64 0]) hb bk; replace BK336 := kN (g := gb336) (cs := #[.int .i64 t332, .int .i64 t333, .int .u64 t334]) hb bk; have BK339 := Aside0.mk hbox; replace HB := bN bz hb; clear hb hbox hg; have hnb28 := NB339_331.out; have hnc28 := NB331_339.out; have hnb29 := NB339_336.out; have hnc29 := NB336_339.out; obtain ⟨hcz30_0, hcz30_1, hcz30_2, hcz30_3, hcz30_4, hfz30_0, hfz30_1, hfz30_2, hfz30_3, hfz30_4⟩ := cz5 (W := w27) BK339) | ((with_reducible refine gate_callee (f := 29) rfl ?_); refine goesL_ (some 55) rfl rfl Tryz.func29 (by kernel_rfl) rfl #[.int .u64 (IntKind.u64.wrap ((IntKind.u64.wrap (2 * t337)) + 1)), .int .i64 (wrap64 (t338 - 1))] rfl lz ?_; (with_reducible refine (bigdec_Exact.calls k (IntKind.u64.wrap ((IntKind.u64.wrap (2 * t337)) + 1)) (wrap64 (t338 - 1)) t340 t341 t342 _ A24.out).mono ?_); rintro e w31 ⟨rfl, hb⟩; refine ⟨_, rfl, ?_⟩; replace BK331 := kN (g := gb331) (cs := #[.string (⟨#[]⟩ : ByteArray), .int .i64 0]) hb bk; replace BK336 := kN (g := gb336) (cs := #[.int .i64 t332, .int .i64 t333, .int .u64 t334]) hb bk; replace BK339 := kN (g := gb339) (cs := #[.string (⟨#[]⟩ : ByteArray), .int .i64 0, .string (⟨#[]⟩ : ByteArray), .int .i64 0, .bool ((Int.tmod t337 2) == 0)]) hb bk; replace HB := bN bz hb; (try clear hb); (try clear hb2); (try clear hk); (try clear hi); obtain ⟨hcz32_0, hcz32_1, hcz32_2, hcz32_3, hcz32_4, hfz32_0, hfz32_1, hfz32_2, hfz32_3, hfz32_4⟩ := cz5 (W := w31) BK339) | ((with_reducible refine gate_callee (f := 29) rfl ?_); refine goesL_ (some 65) rfl rfl Tryz.func29 (by kernel_rfl) rfl #[.int .u64 (IntKind.u64.wrap ((IntKind.u64.wrap (2 * t337)) - 1)), .int .i64 (wrap64 (t338 - 1))] rfl lz ?_; (with_reducible refine (bigdec_Exact.calls k (IntKind.u64.wrap ((IntKind.u64.wrap (2 * t337)) - 1)) (wrap64 (t338 - 1)) t343 t344 t345 _ A25.out).mono ?_); rintro e w33 ⟨rfl, hb⟩; refine ⟨_, rfl, ?_⟩; replace BK331 := kN (g := gb331) (cs := #[.string (⟨#[]⟩ : ByteArray), .int .i64 0]) hb bk; replace BK336 := kN (g := gb336) (cs := #[.int .i64 t332, .int .i64 t333, .int .u64 t334]) hb bk; replace BK339 := kN (g := gb339) (cs := #[.string (⟨#[]⟩ : ByteArray), .int .i64 0, .string t340, .int .i64 t341, .bool ((Int.tmod t337 2) == 0)]) hb bk; replace HB := bN bz hb; (try clear hb); (try clear hb2); (try clear hk); (try clear hi); obtain ⟨hcz34_0, hcz34_1, hcz34_2, hcz34_3, hcz34_4, hfz34_0, hfz34_1, hfz34_2, hfz34_3, hfz34_4⟩ := cz5 (W := w33) BK339))
     (try simp only [Act.put, List.setIfInBounds_toArray, List.set_cons_zero, List.set_cons_succ])
     go_cut [79] (fun v79 wc => ∃ (kq : Nat) (x79_25 : Bool), v79 = .bool x79_25 ∧ Aside0 (short_Shortest.j0 kq (Go.bits .and .u64 a0 (IntKind.u64.wrap ((ji12) - 1))) t337 t338 x79_25 t332 t333 t334 t343 t344 t340 t341 ((Int.tmod t337 2) == 0) = some (r1, r2, r3)) ∧ Aside0 (kq ≤ k) ∧ Aside0 (wc.heap[gb331]? = some (.cells #[.string (⟨#[]⟩ : ByteArray), .int .i64 0] 42 (0, 0))) ∧ Aside0 (wc.heap[gb336]? = some (.cells #[.int .i64 t332, .int .i64 t333, .int .u64 t334] 66 (0, 0))) ∧ Aside0 (wc.heap[gb339]? = some (.cells #[.string t343, .int .i64 t344, .string t340, .int .i64 t341, .bool ((Int.tmod t337 2) == 0)] 88 (0, 0))) ∧ Aside0 (Below w.heap.size w wc))
     case first =>
      have H := HC26.out
      clear HC26
      by_cases c35 : 0 ≤ t332
      ·replace H := hE H c35
       have c35b0 := eq_true c35
       have c35b1 : decide (0 ≤ t332) = true := decide_eq_true c35
       clear c35
       obtain ⟨ji36, hji36⟩ : ∃ j_ : Int, (shl .u64 1 t332) = j_ := ⟨_, rfl⟩
       (first | rw [hji36] at H | simp only [hji36] at H)
       have hji36_ : (IntKind.u64.wrap (1 * 2 ^ min t332.toNat 64)) = ji36 := hji36
       have hji36z : t332 ≤ 64 → (IntKind.u64.wrap (1 * 2 ^ t332.toNat)) = ji36 := shl_small hji36
       have hji36u : (IntKind.u64.wrap (2 ^ min t332.toNat 64)) = ji36 := by have h_ := hji36_; rw [Int.one_mul] at h_; exact h_
       have hji36v : t332 ≤ 64 → (IntKind.u64.wrap (2 ^ t332.toNat)) = ji36 := fun hle_ => by have h_ := hji36z hle_; rw [Int.one_mul] at h_; exact h_
       by_cases c37 : t337 = (ji36)
       ·replace H := hE H c37
        obtain ⟨c37b0, c37b1⟩ := eT c37
        clear c37
        try first | rw [c37b0] | rw [c37b1]
        have H' := Aside0.mk H
        clear H
        have hnb38 := NB336_331.out
        have hnc38 := NB331_336.out
        have hnb39 := NB336_339.out
        have hnc39 := NB339_336.out
        obtain ⟨hcz40_0, hcz40_1, hcz40_2, hfz40_0, hfz40_1, hfz40_2⟩ := cz3 (W := w33) BK336
        go_wp2
        go_meet
        case rel => exact ⟨_, (decide (t338 > t333)), rz, H', ⟨by first | omega | exact Nat.le_refl _⟩, ⟨bk⟩, ⟨bk⟩, ⟨bk⟩, ⟨bz⟩⟩
       ·replace H := hN H c37
        obtain ⟨c37b0, c37b1⟩ := eF c37
        try first | rw [c37b0] | rw [c37b1]
        have H' := Aside0.mk H
        clear H
        have hnb41 := NB336_331.out
        have hnc41 := NB331_336.out
        have hnb42 := NB336_339.out
        have hnc42 := NB339_336.out
        obtain ⟨hcz43_0, hcz43_1, hcz43_2, hfz43_0, hfz43_1, hfz43_2⟩ := cz3 (W := w33) BK336
        go_wp2
        go_meet
        case rel => exact ⟨_, (false), rz, H', ⟨by first | omega | exact Nat.le_refl _⟩, ⟨bk⟩, ⟨bk⟩, ⟨bk⟩, ⟨bz⟩⟩
      ·replace H := hN H c35
       exact absurd H (by simp)
     case rest =>
      clear HC26
      try clear c9
      try clear c11
      try clear c11b0
      try clear c11b1
      try clear c13
      try clear c13b0
      try clear c21
      try clear c21b0
      try clear c21b1
      try clear c35
      try clear c35b0
      try clear c35b1
      try clear c37
      try clear c37b0
      try clear c37b1
      try clear hcz15_0 hcz15_1 hcz15_2 hfz15_0 hfz15_1 hfz15_2
      try clear hcz16_0 hcz16_1 hfz16_0 hfz16_1
      try clear hcz19_0 hcz19_1 hcz19_2 hfz19_0 hfz19_1 hfz19_2
      try clear hcz23_0 hcz23_1 hfz23_0 hfz23_1
      try clear hcz30_0 hcz30_1 hcz30_2 hcz30_3 hcz30_4 hfz30_0 hfz30_1 hfz30_2 hfz30_3 hfz30_4
      try clear hcz32_0 hcz32_1 hcz32_2 hcz32_3 hcz32_4 hfz32_0 hfz32_1 hfz32_2 hfz32_3 hfz32_4
      try clear hcz34_0 hcz34_1 hcz34_2 hcz34_3 hcz34_4 hfz34_0 hfz34_1 hfz34_2 hfz34_3 hfz34_4
      try clear hcz40_0 hcz40_1 hcz40_2 hfz40_0 hfz40_1 hfz40_2
      try clear hcz43_0 hcz43_1 hcz43_2 hfz43_0 hfz43_1 hfz43_2
      try clear hcz8_0 hcz8_1 hcz8_2 hfz8_0 hfz8_1 hfz8_2
      obtain ⟨kq, x79_25, rfl, HA, HJ25, BK331, BK336, BK339, HB⟩ := hcut
      cases kq with
      | zero => exact absurd HA.out (by simp [short_Shortest.j0])
      | succ kj25 =>
       have H := HA.out
       clear HA
       simp only [short_Shortest.j0] at H
       have HC44 := Aside0.mk H
       clear H
       go_upto_if 79 with (fail)
       go_cut [] (fun wc => ∃ (kq : Nat) (x340000_43 : ByteArray) (x340001_43 : Int), Aside0 (short_Shortest.j1 kq (Go.bits .and .u64 a0 (IntKind.u64.wrap ((ji12) - 1))) t332 t333 t334 x340000_43 x340001_43 t340 t341 ((Int.tmod t337 2) == 0) = some (r1, r2, r3)) ∧ Aside0 (kq ≤ kj25) ∧ Aside0 (wc.heap[gb331]? = some (.cells #[.string (⟨#[]⟩ : ByteArray), .int .i64 0] 42 (0, 0))) ∧ Aside0 (wc.heap[gb336]? = some (.cells #[.int .i64 t332, .int .i64 t333, .int .u64 t334] 66 (0, 0))) ∧ Aside0 (wc.heap[gb339]? = some (.cells #[.string x340000_43, .int .i64 x340001_43, .string t340, .int .i64 t341, .bool ((Int.tmod t337 2) == 0)] 88 (0, 0))) ∧ Aside0 (Below w.heap.size w wc))
       case first =>
        have H := HC44.out
        clear HC44
        by_cases c45 : x79_25 = true
        ·subst c45
         replace H := hT H
         replace H := bs H
         obtain ⟨⟨t346, t347, t348⟩, A46, H⟩ := H
         dsimp only at H
         have H' := Aside0.mk H
         clear H
         go_wp2_with (first | ((with_reducible refine gate_callee (f := 29) rfl ?_); refine goesL_ (some 86) rfl rfl Tryz.func29 (by kernel_rfl) rfl #[.int .u64 (IntKind.u64.wrap ((IntKind.u64.wrap (4 * t337)) - 1)), .int .i64 (wrap64 (t338 - 2))] rfl lz ?_; (with_reducible refine (bigdec_Exact.calls kj25 (IntKind.u64.wrap ((IntKind.u64.wrap (4 * t337)) - 1)) (wrap64 (t338 - 2)) t346 t347 t348 _ A46.out).mono ?_); rintro e w47 ⟨rfl, hb⟩; refine ⟨_, rfl, ?_⟩; replace BK331 := kN (g := gb331) (cs := #[.string (⟨#[]⟩ : ByteArray), .int .i64 0]) hb bk; replace BK336 := kN (g := gb336) (cs := #[.int .i64 t332, .int .i64 t333, .int .u64 t334]) hb bk; replace BK339 := kN (g := gb339) (cs := #[.string t343, .int .i64 t344, .string t340, .int .i64 t341, .bool ((Int.tmod t337 2) == 0)]) hb bk; replace HB := bN bz hb; (try clear hb); (try clear hb2); (try clear hk); (try clear hi); have hnb48 := NB339_331.out; have hnc48 := NB331_339.out; have hnb49 := NB339_336.out; have hnc49 := NB336_339.out; obtain ⟨hcz50_0, hcz50_1, hcz50_2, hcz50_3, hcz50_4, hfz50_0, hfz50_1, hfz50_2, hfz50_3, hfz50_4⟩ := cz5 (W := w47) BK339))
         go_meet
         case rel => exact ⟨_, (t346), (t347), H', ⟨by have := HJ25.out; first | omega | exact Nat.le_refl _⟩, ⟨bk⟩, ⟨bk⟩, ⟨bk⟩, ⟨bz⟩⟩
        ·replace c45 := Bool.eq_false_iff.mpr c45
         subst c45
         replace H := hF H
         have H' := Aside0.mk H
         clear H
         go_wp2
         go_meet
         case rel => exact ⟨_, (t343), (t344), H', ⟨by have := HJ25.out; first | omega | exact Nat.le_refl _⟩, ⟨bk⟩, ⟨bk⟩, ⟨bk⟩, ⟨bz⟩⟩
       case rest =>
        clear HC44
        try clear c9
        try clear c11
        try clear c11b0
        try clear c11b1
        try clear c13
        try clear c13b0
        try clear c21
        try clear c21b0
        try clear c21b1
        try clear c35
        try clear c35b0
        try clear c35b1
        try clear c37
        try clear c37b0
        try clear c37b1
        try clear c45
        try clear hcz15_0 hcz15_1 hcz15_2 hfz15_0 hfz15_1 hfz15_2
        try clear hcz16_0 hcz16_1 hfz16_0 hfz16_1
        try clear hcz19_0 hcz19_1 hcz19_2 hfz19_0 hfz19_1 hfz19_2
        try clear hcz23_0 hcz23_1 hfz23_0 hfz23_1
        try clear hcz30_0 hcz30_1 hcz30_2 hcz30_3 hcz30_4 hfz30_0 hfz30_1 hfz30_2 hfz30_3 hfz30_4
        try clear hcz32_0 hcz32_1 hcz32_2 hcz32_3 hcz32_4 hfz32_0 hfz32_1 hfz32_2 hfz32_3 hfz32_4
        try clear hcz34_0 hcz34_1 hcz34_2 hcz34_3 hcz34_4 hfz34_0 hfz34_1 hfz34_2 hfz34_3 hfz34_4
        try clear hcz40_0 hcz40_1 hcz40_2 hfz40_0 hfz40_1 hfz40_2
        try clear hcz43_0 hcz43_1 hcz43_2 hfz43_0 hfz43_1 hfz43_2
        try clear hcz50_0 hcz50_1 hcz50_2 hcz50_3 hcz50_4 hfz50_0 hfz50_1 hfz50_2 hfz50_3 hfz50_4
        try clear hcz8_0 hcz8_1 hcz8_2 hfz8_0 hfz8_1 hfz8_2
        obtain ⟨kq, x340000_43, x340001_43, HA, HJ43, BK331, BK336, BK339, HB⟩ := hcut
        cases kq with
        | zero => exact absurd HA.out (by simp [short_Shortest.j1])
        | succ kj43 =>
         have H := HA.out
         clear HA
         simp only [short_Shortest.j1] at H
         replace H := bs H
         obtain ⟨⟨t349, t350⟩, A51, H⟩ := H
         dsimp only at H
         have H' := Aside0.mk H
         clear H
         have hnb52 := NB336_331.out
         have hnc52 := NB331_336.out
         have hnb53 := NB336_339.out
         have hnc53 := NB339_336.out
         obtain ⟨hcz54_0, hcz54_1, hcz54_2, hfz54_0, hfz54_1, hfz54_2⟩ := cz3 (W := wc) BK336
         go_wp2_with (first | ((with_reducible refine gate_callee (f := 54) rfl ?_); refine goesL_ (some 92) rfl rfl Tryz.func54 (by kernel_rfl) rfl #[.agg #[.int .i64 t332, .int .i64 t333, .int .u64 t334], .int .u64 (Go.bits .and .u64 a0 (IntKind.u64.wrap ((ji12) - 1)))] rfl (by (try simp only [List.map_toArray, List.map_cons, List.map_nil]); first | done | (simp only [hji12]; rfl) | rfl | (simp only [List.length_drop, List.length_take]; rfl)) ?_; (with_reducible refine (short_shape_exact.calls kj43 t332 t333 t334 (Go.bits .and .u64 a0 (IntKind.u64.wrap ((ji12) - 1))) t349 t350 _ A51.out).mono ?_); rintro e w55 ⟨rfl, hb⟩; refine ⟨_, rfl, ?_⟩; replace BK331 := kN (g := gb331) (cs := #[.string (⟨#[]⟩ : ByteArray), .int .i64 0]) hb bk; replace BK336 := kN (g := gb336) (cs := #[.int .i64 t332, .int .i64 t333, .int .u64 t334]) hb bk; replace BK339 := kN (g := gb339) (cs := #[.string x340000_43, .int .i64 x340001_43, .string t340, .int .i64 t341, .bool ((Int.tmod t337 2) == 0)]) hb bk; replace HB := bN bz hb; (try clear hb); (try clear hb2); (try clear hk); (try clear hi)) | ((with_reducible refine gate_dst (N := 12) rfl ?_); refine box_event rfl (N := 12) rfl (cs := #[.string (⟨#[]⟩ : ByteArray), .int .i64 0]) (t := 42) gz ?_; intro gb351 hg w56 hbox hb; have GE351 := gN bz hg; have NB331_351 := lN (g := gb331) (cs := #[.string (⟨#[]⟩ : ByteArray), .int .i64 0]) hg bk; have NB351_331 := rN (g := gb331) (cs := #[.string (⟨#[]⟩ : ByteArray), .int .i64 0]) hg bk; have NB336_351 := lN (g := gb336) (cs := #[.int .i64 t332, .int .i64 t333, .int .u64 t334]) hg bk; have NB351_336 := rN (g := gb336) (cs := #[.int .i64 t332, .int .i64 t333, .int .u64 t334]) hg bk; have NB339_351 := lN (g := gb339) (cs := #[.string x340000_43, .int .i64 x340001_43, .string t340, .int .i64 t341, .bool ((Int.tmod t337 2) == 0)]) hg bk; have NB351_339 := rN (g := gb339) (cs := #[.string x340000_43, .int .i64 x340001_43, .string t340, .int .i64 t341, .bool ((Int.tmod t337 2) == 0)]) hg bk; replace BK331 := kN (g := gb331) (cs := #[.string (⟨#[]⟩ : ByteArray), .int .i64 0]) hb bk; replace BK336 := kN (g := gb336) (cs := #[.int .i64 t332, .int .i64 t333, .int .u64 t334]) hb bk; replace BK339 := kN (g := gb339) (cs := #[.string x340000_43, .int .i64 x340001_43, .string t340, .int .i64 t341, .bool ((Int.tmod t337 2) == 0)]) hb bk; have BK351 := Aside0.mk hbox; replace HB := bN bz hb; clear hb hbox hg; have hnb57 := NB351_331.out; have hnc57 := NB331_351.out; have hnb58 := NB351_336.out; have hnc58 := NB336_351.out; have hnb59 := NB351_339.out; have hnc59 := NB339_351.out; obtain ⟨hcz60_0, hcz60_1, hfz60_0, hfz60_1⟩ := cz2 (W := w56) BK351; have hnb61 := NB339_331.out; have hnc61 := NB331_339.out; obtain ⟨hcz62_0, hcz62_1, hcz62_2, hcz62_3, hcz62_4, hfz62_0, hfz62_1, hfz62_2, hfz62_3, hfz62_4⟩ := cz5 (W := w56) BK339))
         go_loopg [14] kj43 (fun kq v14 w' => ∃ (x14_3 : Int) (x332000_3 : ByteArray) (x332001_3 : Int), v14 = .int .i64 x14_3 ∧ Aside0 (short_Shortest.l0 kq x14_3 t349 t350 x340000_43 x340001_43 t340 t341 ((Int.tmod t337 2) == 0) = some (r1, r2, r3)) ∧ Aside0 (kq ≤ kj43) ∧ Aside0 (w'.heap[gb331]? = some (.cells #[.string x332000_3, .int .i64 x332001_3] 42 (0, 0))) ∧ Aside0 (w'.heap[gb336]? = some (.cells #[.int .i64 t332, .int .i64 t333, .int .u64 t334] 66 (0, 0))) ∧ Aside0 (w'.heap[gb339]? = some (.cells #[.string x340000_43, .int .i64 x340001_43, .string t340, .int .i64 t341, .bool ((Int.tmod t337 2) == 0)] 88 (0, 0))) ∧ Aside0 (w'.heap[gb351]? = some (.cells #[.string t349, .int .i64 t350] 42 (0, 0))) ∧ Aside0 (Below w.heap.size w w'))
         case atStart => exact ⟨(1), ((⟨#[]⟩ : ByteArray)), (0), rz, H', ⟨Nat.le_refl _⟩, ⟨bk⟩, ⟨bk⟩, ⟨bk⟩, ⟨bk⟩, ⟨bz⟩⟩
         case round =>
          clear H'
          try clear c9
          try clear c11
          try clear c11b0
          try clear c11b1
          try clear c13
          try clear c13b0
          try clear c21
          try clear c21b0
          try clear c21b1
          try clear c35
          try clear c35b0
          try clear c35b1
          try clear c37
          try clear c37b0
          try clear c37b1
          try clear c45
          try clear hcz15_0 hcz15_1 hcz15_2 hfz15_0 hfz15_1 hfz15_2
          try clear hcz16_0 hcz16_1 hfz16_0 hfz16_1
          try clear hcz19_0 hcz19_1 hcz19_2 hfz19_0 hfz19_1 hfz19_2
          try clear hcz23_0 hcz23_1 hfz23_0 hfz23_1
          try clear hcz30_0 hcz30_1 hcz30_2 hcz30_3 hcz30_4 hfz30_0 hfz30_1 hfz30_2 hfz30_3 hfz30_4
          try clear hcz32_0 hcz32_1 hcz32_2 hcz32_3 hcz32_4 hfz32_0 hfz32_1 hfz32_2 hfz32_3 hfz32_4
          try clear hcz34_0 hcz34_1 hcz34_2 hcz34_3 hcz34_4 hfz34_0 hfz34_1 hfz34_2 hfz34_3 hfz34_4
          try clear hcz40_0 hcz40_1 hcz40_2 hfz40_0 hfz40_1 hfz40_2
          try clear hcz43_0 hcz43_1 hcz43_2 hfz43_0 hfz43_1 hfz43_2
          try clear hcz50_0 hcz50_1 hcz50_2 hcz50_3 hcz50_4 hfz50_0 hfz50_1 hfz50_2 hfz50_3 hfz50_4
          try clear hcz54_0 hcz54_1 hcz54_2 hfz54_0 hfz54_1 hfz54_2
          try clear hcz60_0 hcz60_1 hfz60_0 hfz60_1
          try clear hcz62_0 hcz62_1 hcz62_2 hcz62_3 hcz62_4 hfz62_0 hfz62_1 hfz62_2 hfz62_3 hfz62_4
          try clear hcz8_0 hcz8_1 hcz8_2 hfz8_0 hfz8_1 hfz8_2
          obtain ⟨x14_3, x332000_3, x332001_3, rfl, HA, HK3, BK331, BK336, BK339, BK351, HB⟩ := hrel
          cases gk with
          | zero => exact absurd HA.out (by simp [short_Shortest.l0])
          | succ k3 =>
           have H := HA.out
           clear HA
           simp only [short_Shortest.l0] at H
           replace H := bs H
           obtain ⟨⟨t353, t354, t355⟩, A63, H⟩ := H
           dsimp only at H
           have hnb64 := NB351_331.out
           have hnc64 := NB331_351.out
           have hnb65 := NB351_336.out
           have hnc65 := NB336_351.out
           have hnb66 := NB351_339.out
           have hnc66 := NB339_351.out
           obtain ⟨hcz67_0, hcz67_1, hfz67_0, hfz67_1⟩ := cz2 (W := wr) BK351
           go_upto_if 104 with (first | ((with_reducible refine gate_callee (f := 57) rfl ?_); refine goesL_ (some 101) rfl rfl Tryz.func57 (by kernel_rfl) rfl #[.agg #[.string t349, .int .i64 t350], .int .i64 x14_3, .func (.func 56) #[.agg #[.string x340000_43, .int .i64 x340001_43, .string t340, .int .i64 t341, .bool ((Int.tmod t337 2) == 0)]] #[]] rfl lz ?_; (with_reducible refine (short_best.calls k3 t349 t350 x14_3 x340000_43 x340001_43 t340 t341 ((Int.tmod t337 2) == 0) t353 t354 t355 _ A63.out).mono ?_); rintro e w68 ⟨rfl, hb⟩; refine ⟨_, rfl, ?_⟩; replace BK331 := kN (g := gb331) (cs := #[.string x332000_3, .int .i64 x332001_3]) hb bk; replace BK336 := kN (g := gb336) (cs := #[.int .i64 t332, .int .i64 t333, .int .u64 t334]) hb bk; replace BK339 := kN (g := gb339) (cs := #[.string x340000_43, .int .i64 x340001_43, .string t340, .int .i64 t341, .bool ((Int.tmod t337 2) == 0)]) hb bk; replace BK351 := kN (g := gb351) (cs := #[.string t349, .int .i64 t350]) hb bk; replace HB := bN bz hb; (try clear hb); (try clear hb2); (try clear hk); (try clear hi)) | ((with_reducible refine gate_dst (N := 15) rfl ?_); refine box_event rfl (N := 15) rfl (cs := #[.string (⟨#[]⟩ : ByteArray), .int .i64 0]) (t := 42) gz ?_; intro gb356 hg w69 hbox hb; have GE356 := gN bz hg; have NB331_356 := lN (g := gb331) (cs := #[.string x332000_3, .int .i64 x332001_3]) hg bk; have NB356_331 := rN (g := gb331) (cs := #[.string x332000_3, .int .i64 x332001_3]) hg bk; have NB336_356 := lN (g := gb336) (cs := #[.int .i64 t332, .int .i64 t333, .int .u64 t334]) hg bk; have NB356_336 := rN (g := gb336) (cs := #[.int .i64 t332, .int .i64 t333, .int .u64 t334]) hg bk; have NB339_356 := lN (g := gb339) (cs := #[.string x340000_43, .int .i64 x340001_43, .string t340, .int .i64 t341, .bool ((Int.tmod t337 2) == 0)]) hg bk; have NB356_339 := rN (g := gb339) (cs := #[.string x340000_43, .int .i64 x340001_43, .string t340, .int .i64 t341, .bool ((Int.tmod t337 2) == 0)]) hg bk; have NB351_356 := lN (g := gb351) (cs := #[.string t349, .int .i64 t350]) hg bk; have NB356_351 := rN (g := gb351) (cs := #[.string t349, .int .i64 t350]) hg bk; replace BK331 := kN (g := gb331) (cs := #[.string x332000_3, .int .i64 x332001_3]) hb bk; replace BK336 := kN (g := gb336) (cs := #[.int .i64 t332, .int .i64 t333, .int .u64 t334]) hb bk; replace BK339 := kN (g := gb339) (cs := #[.string x340000_43, .int .i64 x340001_43, .string t340, .int .i64 t341, .bool ((Int.tmod t337 2) == 0)]) hb bk; replace BK351 := kN (g := gb351) (cs := #[.string t349, .int .i64 t350]) hb bk; have BK356 := Aside0.mk hbox; replace HB := bN bz hb; clear hb hbox hg; have hnb70 := NB356_331.out; have hnc70 := NB331_356.out; have hnb71 := NB356_336.out; have hnc71 := NB336_356.out; have hnb72 := NB356_339.out; have hnc72 := NB339_356.out; have hnb73 := NB356_351.out; have hnc73 := NB351_356.out; obtain ⟨hcz74_0, hcz74_1, hfz74_0, hfz74_1⟩ := cz2 (W := w69) BK356))
           (try simp only [Act.put, List.setIfInBounds_toArray, List.set_cons_zero, List.set_cons_succ])
           by_cases c75 : t355 = true
           ·subst c75
            replace H := hT H
            simp only [Option.some.injEq, Prod.mk.injEq] at H
            obtain ⟨rfl, rfl, rfl⟩ := H
            have hnb76 := NB356_331.out
            have hnc76 := NB331_356.out
            have hnb77 := NB356_336.out
            have hnc77 := NB336_356.out
            have hnb78 := NB356_339.out
            have hnc78 := NB339_356.out
            have hnb79 := NB356_351.out
            have hnc79 := NB351_356.out
            obtain ⟨hcz80_0, hcz80_1, hfz80_0, hfz80_1⟩ := cz2 (W := w69) BK356
            have hnb81 := NB331_336.out
            have hnc81 := NB336_331.out
            have hnb82 := NB331_339.out
            have hnc82 := NB339_331.out
            have hnb83 := NB331_351.out
            have hnc83 := NB351_331.out
            obtain ⟨hcz84_0, hcz84_1, hfz84_0, hfz84_1⟩ := cz2 (W := w69) BK331
            go_wp2
            refine bodyPost_ret (results_ct rfl _ _ gb331 42 #[.string t353, .int .i64 t354] (0, 0) _ rfl bk Tryz.underlying42 rfl (by kernel_rfl)) rfl ?_
            exact ⟨by first | rfl | (simp [errW_none, errW_some] <;> rfl) | (simp only [← hji10, ← hji12]; first | rfl | (simp [errW_none, errW_some] <;> rfl)) | (simp [*, errW_none, errW_some] <;> rfl), bz⟩
           ·replace c75 := Bool.eq_false_iff.mpr c75
            subst c75
            replace H := hF H
            have H' := Aside0.mk H
            clear H
            go_wp2
            go_roundg k3
            case measure => have := HJ25.out; have := HJ43.out; have := HK3.out; omega
            case rel => exact ⟨(wrap64 (x14_3 + 1)), (x332000_3), (x332001_3), rz, H', ⟨by have := HJ25.out; have := HJ43.out; have := HK3.out; omega⟩, ⟨bk⟩, ⟨bk⟩, ⟨bk⟩, ⟨bk⟩, ⟨bz⟩⟩
  ·replace H := hN H c11
   exact absurd H (by simp)
 ·replace c9 := Bool.eq_false_iff.mpr c9
  subst c9
  replace H := hF H
  simp only [Option.some.injEq, Prod.mk.injEq] at H
  obtain ⟨rfl, rfl, rfl⟩ := H
  have hnb85 := NB331_336.out
  have hnc85 := NB336_331.out
  obtain ⟨hcz86_0, hcz86_1, hfz86_0, hfz86_1⟩ := cz2 (W := w6) BK331
  go_wp2
  refine bodyPost_ret (results_ct rfl _ _ gb331 42 #[.string (⟨#[]⟩ : ByteArray), .int .i64 0] (0, 0) _ rfl bk Tryz.underlying42 rfl (by kernel_rfl)) rfl ?_
  exact ⟨ez, bz⟩
end Go.Proofs.YtecpgdfnamkfdaaGreatDoor.Fn
end
section
namespace Go.Proofs.YtecpgdfnamkfdaaGreatDoor.Pure
open Go.RowKit Go.Proofs.YtecpgdfnamkfdaaGreatDoorW.PrintWords Go.Proofs.YtecpgdfnamkfdaaGreatDoor.Fn
set_option linter.unusedVariables false
set_option linter.unusedSimpArgs false
theorem one_decOf (u : Int) : (S ([49] : List UInt8), u + 1) = (S (decOf 1 u).1, (decOf 1 u).2) := by
  unfold decOf
  rw [if_neg (by omega)]
  have h1 : digs 1 = [49] := rfl
  rw [h1]
  have h2 : rz [49] = [49] := rfl
  rw [h2]
  simp
  omega
theorem normS_all {l : List UInt8} (h : AllD l) {p : Int} (hl : l.length ≤ 2000) (hp : -5000 ≤ p ∧ p ≤ 5000) : normS (S l) p = (S (decOf (val l) (p - l.length)).1, (decOf (val l) (p - l.length)).2, 0) := by
  unfold normS normTail
  rw [if_neg (by rw [size_S]; omega), L_S, if_pos (all_isD h), if_neg (by omega), if_neg (by omega), formL_eq h]
  rfl
theorem dec_bound {n k : Nat} {e : Int} (h : n < 10 ^ k) (hk : k ≤ 1400) (he : -3000 ≤ e) (h2 : e + k ≤ 3000) : (decOf n e).1.length ≤ 2000 ∧ -5000 ≤ (decOf n e).2 ∧ (decOf n e).2 ≤ 5000 := by
  have := decOf_bound h e
  omega
structure Val (wide : Bool) (p : Nat) (v : List UInt8 × Int) : Prop where
  form : InForm v.1 v.2
  len : v.1.length ≤ 1300
  lo : -1200 ≤ v.2
  hi : v.2 ≤ 1300
def cU (v : List UInt8 × Int) (n : Nat) : Nat := val (v.1.take n)
def cE (v : List UInt8 × Int) (n : Nat) : Int := v.2 - n
def isP (wide : Bool) (p : Nat) (n : Nat) (x : Int) : Prop := rdX wide (dX wide n x) = p
instance (wide : Bool) (p n : Nat) (x : Int) : Decidable (isP wide p n x) := by unfold isP; infer_instance
def nearU (v : List UInt8 × Int) (n : Nat) : Nat := if downP v.1 n then cU v n else cU v n + 1
def bestD (wide : Bool) (p : Nat) (v : List UInt8 × Int) (n : Nat) : Option (List UInt8 × Int) :=
  if v.1.length ≤ n then some v
  else if isP wide p (nearU v n) (cE v n) then some (decOf (nearU v n) (cE v n))
  else if isP wide p (cU v n) (cE v n) then some (decOf (cU v n) (cE v n))
  else if isP wide p (cU v n + 1) (cE v n) then some (decOf (cU v n + 1) (cE v n)) else none
def optD (o : Option (List UInt8 × Int)) : ByteArray × Int × Bool := match o with
  | some d => (S d.1, d.2, true)
  | none => (⟨#[]⟩, 0, false)
structure Span (wide : Bool) (p : Nat) (lo hi : List UInt8 × Int) : Prop where
  f1 : InForm lo.1 lo.2
  f2 : InForm hi.1 hi.2
  b1 : lo.1.length ≤ 2000 ∧ -5000 ≤ lo.2 ∧ lo.2 ≤ 5000
  b2 : hi.1.length ≤ 2000 ∧ -5000 ≤ hi.2 ∧ hi.2 ≤ 5000
  c1 : ∀ (n : Nat) (x : Int), -(vv : Int) ≤ x → cmpD lo.1 lo.2 (decOf n x).1 (decOf n x).2 = cmpN (loX wide p) (dX wide n x)
  c2 : ∀ (n : Nat) (x : Int), -(vv : Int) ≤ x → cmpD hi.1 hi.2 (decOf n x).1 (decOf n x).2 = cmpN (hiX wide p) (dX wide n x)
theorem in_ev {wide : Bool} {p : Nat} {lo hi : List UInt8 × Int} (hs : Span wide p lo hi) (hp : 0 < p) (hi2 : p < ii wide) {n k : Nat} {e : Int} (h : n < 10 ^ k) (hk : k ≤ 1400) (he : -3000 ≤ e) (h2 : e + k ≤ 3000) :
    Ev (fun r => short_span_in.f r (S lo.1) lo.2 (S hi.1) hi.2 (decide (p % 2 = 0)) (S (decOf n e).1) (decOf n e).2) (decide (isP wide p n e)) := by
  have hv := vv_eq
  exact span_ev wide p _ rfl rfl rfl hs.f1 hs.f2 (inForm_decOf n e) hs.b1 hs.b2 (dec_bound h hk he h2) (hs.c1 n e (by omega)) (hs.c2 n e (by omega)) _ (by rw [decide_eq_true_iff]; exact (inX_iff wide hp hi2 _).symm)
theorem cU_lt {wide : Bool} {p : Nat} {v : List UInt8 × Int} (hv : Val wide p v) (n : Nat) (hn : n < v.1.length) : cU v n < 10 ^ n := by
  have := val_lt (hv.form.1.take n)
  rw [List.length_take, Nat.min_eq_left (by omega)] at this
  exact this
theorem nearU_two (v : List UInt8 × Int) (n : Nat) : nearU v n = cU v n ∨ nearU v n = cU v n + 1 := by
  unfold nearU
  split
  · exact .inl rfl
  · exact .inr rfl
theorem round_v {wide : Bool} {p : Nat} {v : List UInt8 × Int} (hv : Val wide p v) (n : Nat) (hn : n < v.1.length) : roundN v.1 v.2 (n : Int) = decOf (nearU v n) (cE v n) := by
  unfold roundN nearU cU cE
  rw [if_neg (by omega), if_neg (by omega), Int.toNat_natCast]
  by_cases c : downP v.1 n
  · rw [if_pos c, if_pos c]
  · rw [if_neg c, if_neg c]
theorem Val.five {wide : Bool} {p : Nat} {v : List UInt8 × Int} (hv : Val wide p v) : v.1.length ≤ 2000 ∧ -5000 ≤ v.2 ∧ v.2 ≤ 5000 := by
  have := hv.len
  have := hv.lo
  have := hv.hi
  omega
theorem best_ev {wide : Bool} {p : Nat} {lo hi v : List UInt8 × Int} (hs : Span wide p lo hi) (hv : Val wide p v) (hp : 0 < p) (hi2 : p < ii wide) (n : Nat) :
    Ev (fun k => short_best.f k (S v.1) v.2 (n : Int) (S lo.1) lo.2 (S hi.1) hi.2 (decide (p % 2 = 0))) (optD (bestD wide p v n)) := by
  have hl := hv.len
  have hlo := hv.lo
  have hhi := hv.hi
  have h5 := hv.five
  unfold short_best.f bestD
  rw [size_S]
  by_cases c1 : v.1.length ≤ n
  · rw [if_pos c1]
    exact Ev.congr (fun k => if_pos (by omega)) (Ev.now _)
  · rw [if_neg c1]
    refine Ev.congr (fun k => if_neg (by omega)) ?_
    have hn : n < v.1.length := by omega
    have hu := cU_lt hv n hn
    have hu1 : cU v n + 1 < 10 ^ (n + 1) := by
      rw [Nat.pow_succ]
      have : 1 ≤ 10 ^ n := Nat.pow_pos (by omega)
      omega
    have hE : -3000 ≤ cE v n ∧ cE v n + ((n + 1 : Nat) : Int) ≤ 3000 := by unfold cE; omega
    have hnr : nearU v n < 10 ^ (n + 1) := by rcases nearU_two v n with h | h <;> rw [h] <;> omega
    have hr := roundS_eq (S v.1) v.2 (n : Int)
    have e1 : roundS (S v.1) v.2 (fun _ => (n : Int)) = (S (decOf (nearU v n) (cE v n)).1, (decOf (nearU v n) (cE v n)).2, 0) := by
      unfold roundS
      rw [normS_ok hv.form h5.1 h5.2, if_pos rfl]
      simp only [L_S]
      rw [round_v hv n hn]
      rfl
    rw [e1] at hr
    refine Ev.bind hr ?_
    refine Ev.bind (in_ev hs hp hi2 hnr (by omega) hE.1 hE.2) ?_
    by_cases c2 : isP wide p (nearU v n) (cE v n)
    · rw [if_pos c2]
      refine Ev.congr (fun k => if_pos (decide_eq_true c2)) (Ev.now _)
    · rw [if_neg c2]
      refine Ev.congr (fun k => if_neg (fun h => c2 (of_decide_eq_true h))) ?_
      refine Ev.congr (fun k => if_pos (by omega)) ?_
      refine Ev.congr (fun k => if_pos (by omega)) ?_
      rw [Int.toNat_natCast, S_take]
      have hnm := norm_eq (S (v.1.take n)) v.2
      have htl : (v.1.take n).length = n := by rw [List.length_take, Nat.min_eq_left (by omega)]
      rw [normS_all (hv.form.1.take n) (by omega) h5.2, htl] at hnm
      rw [show val (v.1.take n) = cU v n from rfl, show v.2 - (n : Int) = cE v n from rfl] at hnm
      refine Ev.bind hnm ?_
      have hw : wrap64 (wrap64 (v.2 - (n : Int)) + 1) = cE v n + 1 := by
        unfold cE
        rw [wrap_id (x := v.2 - (n : Int)) (by omega) (by omega), wrap_id (by omega) (by omega)]
      rw [hw]
      have hone := one_decOf (cE v n)
      have ho1 : (S ([49] : List UInt8)) = S (decOf 1 (cE v n)).1 := congrArg Prod.fst hone
      have ho2 : cE v n + 1 = (decOf 1 (cE v n)).2 := congrArg Prod.snd hone
      have hadd := addS_eq (S (decOf (cU v n) (cE v n)).1) (decOf (cU v n) (cE v n)).2 (S (decOf 1 (cE v n)).1) (decOf 1 (cE v n)).2
      have hE' : cE v n + (n : Int) ≤ 3000 := by omega
      have hE1 : cE v n + ((1 : Nat) : Int) ≤ 3000 := by omega
      rw [addS_ok (inForm_decOf _ _) (inForm_decOf _ _) (dec_bound hu (by omega) hE.1 hE') (dec_bound (n := 1) (k := 1) (by decide) (by decide) hE.1 hE1)] at hadd
      have e2 : addD (decOf (cU v n) (cE v n)).1 (decOf (cU v n) (cE v n)).2 (decOf 1 (cE v n)).1 (decOf 1 (cE v n)).2 = (S (decOf (cU v n + 1) (cE v n)).1, (decOf (cU v n + 1) (cE v n)).2, 0) := by
        unfold addD
        rw [sum_decOf, if_neg (by have := (dec_bound hu1 (by omega) hE.1 hE.2).1; omega)]
        rfl
      rw [e2, ← ho1, ← ho2] at hadd
      refine Ev.bind (g := fun k => bigdec_Add.f k (S (decOf (cU v n) (cE v n)).1) (decOf (cU v n) (cE v n)).2 (⟨#[49]⟩ : ByteArray) (cE v n + 1)) hadd ?_
      refine Ev.step (fun k => by simp only [short_best.l0]; rfl) ?_
      refine Ev.congr (fun k => if_pos (by simp)) ?_
      refine Ev.congr (fun k => if_pos (by simp)) ?_
      refine Ev.bind (in_ev hs hp hi2 hu (by omega) hE.1 hE') ?_
      by_cases c3 : isP wide p (cU v n) (cE v n)
      · rw [if_pos c3]
        exact Ev.congr (fun k => if_pos (decide_eq_true c3)) (Ev.now _)
      · rw [if_neg c3]
        refine Ev.congr (fun k => if_neg (fun h => c3 (of_decide_eq_true h))) ?_
        rw [show wrap64 ((0 : Int) + 1) = 1 by simp [wrap64]]
        refine Ev.step (fun k => by simp only [short_best.l0]; rfl) ?_
        refine Ev.congr (fun k => if_pos (by simp)) ?_
        refine Ev.congr (fun k => if_neg (by simp)) ?_
        refine Ev.congr (fun k => if_pos (by simp)) ?_
        refine Ev.bind (in_ev hs hp hi2 hu1 (by omega) hE.1 hE.2) ?_
        by_cases c4 : isP wide p (cU v n + 1) (cE v n)
        · rw [if_pos c4]
          exact Ev.congr (fun k => if_pos (decide_eq_true c4)) (Ev.now _)
        · rw [if_neg c4]
          refine Ev.congr (fun k => if_neg (fun h => c4 (of_decide_eq_true h))) ?_
          rw [show wrap64 ((1 : Int) + 1) = 2 by simp [wrap64]]
          refine Ev.step (fun k => by simp only [short_best.l0]; rfl) ?_
          exact Ev.congr (fun k => if_neg (by simp)) (Ev.now _)
def shortGo (wide : Bool) (p : Nat) (v : List UInt8 × Int) : Nat → Nat → List UInt8 × Int
  | 0, _ => v
  | d + 1, n => match bestD wide p v n with
    | some r => r
    | none => shortGo wide p v d (n + 1)
theorem best_all (wide : Bool) (p : Nat) (v : List UInt8 × Int) {n : Nat} (h : v.1.length ≤ n) : bestD wide p v n = some v := by
  unfold bestD
  rw [if_pos h]
theorem loop_ev {wide : Bool} {p : Nat} {lo hi v : List UInt8 × Int} (hs : Span wide p lo hi) (hv : Val wide p v) (hp : 0 < p) (hi2 : p < ii wide) : ∀ (d n : Nat), v.1.length ≤ n + d → n ≤ 2000 →
    Ev (fun k => short_Shortest.l0 k (n : Int) (S v.1) v.2 (S lo.1) lo.2 (S hi.1) hi.2 (decide (p % 2 = 0))) (S (shortGo wide p v d n).1, (shortGo wide p v d n).2, 0) := by
  intro d
  induction d with
  | zero =>
    intro n h hn
    have hb := best_ev hs hv hp hi2 n
    rw [best_all wide p v (n := n) h] at hb
    refine Ev.step (fun k => by simp only [short_Shortest.l0]; rfl) ?_
    refine Ev.bind hb ?_
    exact Ev.congr (fun k => if_pos rfl) (Ev.now _)
  | succ d ih =>
    intro n h hn
    have hb := best_ev hs hv hp hi2 n
    refine Ev.step (fun k => by simp only [short_Shortest.l0]; rfl) ?_
    refine Ev.bind hb ?_
    unfold shortGo
    cases hbd : bestD wide p v n with
    | some r => exact Ev.congr (fun k => if_pos rfl) (Ev.now _)
    | none =>
      refine Ev.congr (fun k => if_neg (by decide)) ?_
      have hlen := hv.len
      have hn2 : n < v.1.length := by
        refine Nat.lt_of_not_le fun c => ?_
        rw [best_all wide p v c] at hbd
        cases hbd
      rw [wrap_id (by omega) (by omega), show ((n : Int) + 1) = ((n + 1 : Nat) : Int) by omega]
      exact ih (n + 1) (by omega) (by omega)
def exV (wide : Bool) (p : Nat) : List UInt8 × Int := exD (fM (ff wide) p) ((fE (ff wide) p : Int) - (ll wide : Int))
theorem exV_val (wide : Bool) {p : Nat} (hp : p < ii wide) : Val wide p (exV wide p) := by
  have h1 := fEl wide (Nat.le_of_lt hp)
  have h2 := fE_le wide (Nat.le_of_lt hp)
  have h := exD_small (m := fM (ff wide) p) (by omega) (e := (fE (ff wide) p : Int) - (ll wide : Int)) (by omega)
  exact ⟨exD_form _ _, h.1, h.2.1, h.2.2⟩
def shortD (wide : Bool) (p : Nat) : List UInt8 × Int := shortGo wide p (exV wide p) (exV wide p).1.length 1
def shortS (wide : Bool) (a : Nat) : ByteArray × Int × Int :=
  if ii wide ≤ bareN wide a then (⟨#[]⟩, 0, 1) else if bareN wide a = 0 then (⟨#[]⟩, 0, 0) else (S (shortD wide (bareN wide a)).1, (shortD wide (bareN wide a)).2, 0)
theorem hi_span (wide : Bool) {p : Nat} (hp : 0 < p) (hi : p < ii wide) {lo : List UInt8 × Int} (f1 : InForm lo.1 lo.2) (b1 : lo.1.length ≤ 2000 ∧ -5000 ≤ lo.2 ∧ lo.2 ≤ 5000)
    (c1 : ∀ (n : Nat) (x : Int), -(vv : Int) ≤ x → cmpD lo.1 lo.2 (decOf n x).1 (decOf n x).2 = cmpN (loX wide p) (dX wide n x)) :
    Span wide p lo (exD (2 * fM (ff wide) p + 1) ((fE (ff wide) p : Int) - (ll wide : Int) - 1)) := by
  have h1 := fEl wide (Nat.le_of_lt hi)
  have h2 := fE_le wide (Nat.le_of_lt hi)
  have h := exD_small (m := 2 * fM (ff wide) p + 1) (by omega) (e := (fE (ff wide) p : Int) - (ll wide : Int) - 1) (by omega)
  exact ⟨f1, exD_form _ _, b1, by omega, c1, fun n x hx => cmp_hi wide p n x hx⟩
theorem j1_ev {wide : Bool} {p : Nat} {lo hi : List UInt8 × Int} (hs : Span wide p lo hi) (hp : 0 < p) (hi2 : p < ii wide) :
    Ev (fun k => short_Shortest.j1 k (p : Int) (ff wide : Int) (-(ll wide : Int)) (ii wide : Int) (S lo.1) lo.2 (S hi.1) hi.2 (decide (p % 2 = 0))) (S (shortD wide p).1, (shortD wide p).2, 0) := by
  refine Ev.step (fun k => by simp only [short_Shortest.j1]; rfl) ?_
  have hsh := shapeExact_ev wide (Nat.le_of_lt hi2)
  refine Ev.bind hsh ?_
  exact loop_ev hs (exV_val wide hi2) hp hi2 (exV wide p).1.length 1 (by omega) (by omega)
theorem shortest_eq (wide : Bool) (a : Nat) (ha : a < 18446744073709551616) : Ev (fun k => short_Shortest.f k (a : Int) (szB wide)) (shortS wide a) := by
  obtain ⟨j, hj, ht, hw⟩ := tt_pow wide
  have hi := ii_lt wide
  have hmt := Nat.mod_lt a (tt_le wide).1
  have htt := (tt_le wide).2
  unfold short_Shortest.f
  rw [of_eq']
  simp only [Option.bind_some, if_true]
  rw [hw]
  refine Ev.congr (fun k => if_pos (by omega)) ?_
  rw [mask_one _ hj, and_mask _ _ (by omega) ha, ← ht]
  unfold shortS bareN
  obtain ⟨p, hp⟩ : ∃ p, a % tt wide = p := ⟨_, rfl⟩
  rw [hp] at hmt ⊢
  by_cases c1 : ii wide ≤ p
  · rw [if_pos c1]
    exact Ev.congr (fun k => if_pos (by omega)) (Ev.now _)
  · rw [if_neg c1]
    refine Ev.congr (fun k => if_neg (by omega)) ?_
    rw [value_eq wide p (by omega)]
    simp only [Option.bind_some]
    by_cases c2 : p = 0
    · rw [if_pos c2]
      have h0 : fM (ff wide) p = 0 := by rw [c2]; cases wide <;> decide
      exact Ev.congr (fun k => if_pos (by omega)) (Ev.now _)
    · rw [if_neg c2]
      have hp0 : 0 < p := by omega
      have hlt : p < ii wide := by omega
      have hm := fM_pos (f := ff wide) hp0
      refine Ev.congr (fun k => if_neg (by omega)) ?_
      have h1 := fEl wide (Nat.le_of_lt hlt)
      have h2 := fE_le wide (Nat.le_of_lt hlt)
      obtain ⟨e, he⟩ : ∃ e : Int, (fE (ff wide) p : Int) - (ll wide : Int) = e := ⟨_, rfl⟩
      have hlo2 := cmp_lo2 wide hp0
      have hlo1 := cmp_lo1 wide hp0
      have hsp := fun lo => @hi_span wide p hp0 hlt lo
      have hll := ll_two wide
      rw [he] at h1 hlo1 hlo2 hsp ⊢
      obtain ⟨m, hmm⟩ : ∃ m, fM (ff wide) p = m := ⟨_, rfl⟩
      rw [hmm] at hm h2 hlo1 hlo2 hsp ⊢
      have e1 : IntKind.u64.wrap (IntKind.u64.wrap (2 * (m : Int)) + 1) = ((2 * m + 1 : Nat) : Int) := by
        rw [show (2 : Int) * (m : Int) = ((2 * m : Nat) : Int) by omega, u64N _ (by omega), show (((2 * m : Nat) : Int) + 1) = ((2 * m + 1 : Nat) : Int) by omega, u64N _ (by omega)]
      have e2 : IntKind.u64.wrap (IntKind.u64.wrap (2 * (m : Int)) - 1) = ((2 * m - 1 : Nat) : Int) := by
        rw [show (2 : Int) * (m : Int) = ((2 * m : Nat) : Int) by omega, u64N _ (by omega), show (((2 * m : Nat) : Int) - 1) = ((2 * m - 1 : Nat) : Int) by omega, u64N _ (by omega)]
      have e4 : IntKind.u64.wrap (IntKind.u64.wrap (4 * (m : Int)) - 1) = ((4 * m - 1 : Nat) : Int) := by
        rw [show (4 : Int) * (m : Int) = ((4 * m : Nat) : Int) by omega, u64N _ (by omega), show (((4 * m : Nat) : Int) - 1) = ((4 * m - 1 : Nat) : Int) by omega, u64N _ (by omega)]
      have w1 : wrap64 (e - 1) = e - 1 := wrap_id (by omega) (by omega)
      have w2 : wrap64 (e - 2) = e - 2 := wrap_id (by omega) (by omega)
      have x1 := exact_eq (2 * m + 1) (e - 1) (by omega)
      rw [exactS_exD _ (by omega)] at x1
      have x2 := exact_eq (2 * m - 1) (e - 1) (by omega)
      rw [exactS_exD _ (by omega)] at x2
      have x4 := exact_eq (4 * m - 1) (e - 2) (by omega)
      rw [exactS_exD _ (by omega)] at x4
      have s2 := exD_small (m := 2 * m - 1) (by omega) (e := e - 1) (by omega)
      have s4 := exD_small (m := 4 * m - 1) (by omega) (e := e - 2) (by omega)
      rw [e1, w1, e2]
      refine Ev.bind x1 ?_
      refine Ev.bind x2 ?_
      refine Ev.congr (fun k => if_pos (by omega)) ?_
      have hpar : (Int.tmod (m : Int) 2 == 0) = decide (p % 2 = 0) := by
        rw [show (2 : Int) = ((2 : Nat) : Int) from rfl, tmodN]
        have hq : p % 2 = m % 2 := by
          obtain ⟨g1, _⟩ := fOf (ff wide) p
          rw [hmm] at g1
          obtain ⟨u, hu⟩ : ∃ u, ff wide = u + 1 := ⟨ff wide - 1, (Nat.sub_add_cancel (Nat.le_trans (by decide) (ff_two wide).1)).symm⟩
          rw [hu, Nat.pow_succ, ← Nat.mul_assoc] at g1
          generalize fE (u + 1) p * 2 ^ u = G at g1
          rw [g1]
          omega
        rw [hq, Bool.eq_iff_iff]
        simp
        omega
      rw [hpar, shl_one _ (Nat.le_trans (ff_lt wide) (by decide))]
      -- the two ways behind
      have way1 : m ≠ 2 ^ ff wide ∨ fE (ff wide) p = 0 → Ev (fun k => short_Shortest.j1 k (p : Int) (ff wide : Int) (-(ll wide : Int)) (ii wide : Int) (S (exD (2 * m - 1) (e - 1)).1) (exD (2 * m - 1) (e - 1)).2 (S (exD (2 * m + 1) (e - 1)).1) (exD (2 * m + 1) (e - 1)).2 (decide (p % 2 = 0))) (S (shortD wide p).1, (shortD wide p).2, 0) := fun h =>
        j1_ev (hsp _ (exD_form _ _) (by omega) (fun n x hx => hlo1 h n x hx)) hp0 hlt
      by_cases c3 : m = 2 ^ ff wide
      · refine Ev.congr (fun k => if_pos (by rw [c3])) ?_
        by_cases c4 : fE (ff wide) p = 0
        · rw [show decide (e > -(ll wide : Int)) = false from decide_eq_false (by omega)]
          refine Ev.step (fun k => by simp only [short_Shortest.j0]; rfl) ?_
          exact Ev.congr (fun k => if_neg (by decide)) (way1 (.inr c4))
        · rw [show decide (e > -(ll wide : Int)) = true from decide_eq_true (by omega)]
          refine Ev.step (fun k => by simp only [short_Shortest.j0]; rfl) ?_
          refine Ev.congr (fun k => if_pos (by simp)) ?_
          rw [e4, w2]
          refine Ev.bind x4 ?_
          exact j1_ev (hsp _ (exD_form _ _) (by omega) (fun n x hx => hlo2 c3 c4 n x hx)) hp0 hlt
      · refine Ev.congr (fun k => if_neg (fun h => c3 (Int.ofNat.inj h))) ?_
        refine Ev.step (fun k => by simp only [short_Shortest.j0]; rfl) ?_
        exact Ev.congr (fun k => if_neg (by decide)) (way1 (.inl c3))
end Go.Proofs.YtecpgdfnamkfdaaGreatDoor.Pure
end
section
namespace Go.Proofs.YtecpgdfnamkfdaaGreatDoor.Fn
open Go.RowKit Go.Proofs.YtecpgdfnamkfdaaGreatDoorW.PrintWords Go.Proofs.YtecpgdfnamkfdaaGreatDoorW.PrintLast Go.Proofs.YtecpgdfnamkfdaaGreatDoorW.PrintMore
attribute [local go_sem] fnW_0 fnW_1 fnW_2 fnW_3 fnW_4 fnW_5 fnW_guard fnW_eql max2_int min2_int max_two min_two
set_option linter.unusedVariables false
set_option linter.unusedSimpArgs false
def floats_float_value.f (k : Nat) (a0_0 : Int) (a0_1 : Int) (a0_2 : Int) (a0_3 : Int) (a0_4 : Int) (a0_5 : Bool) (a0_6 : Int) : Option (ByteArray × Int) := (bigdec_Exact.f k a0_2 a0_3).bind fun bt199 => (some (bt199.1, bt199.2.1))
set_option maxHeartbeats 8000000 in
set_option maxRecDepth 100000 in
theorem floats_float_value.calls (k : Nat) (a0_0 : Int) (a0_1 : Int) (a0_2 : Int) (a0_3 : Int) (a0_4 : Int) (a0_5 : Bool) (a0_6 : Int) (r1 : ByteArray) (r2 : Int) (w : World) (h : floats_float_value.f k a0_0 a0_1 a0_2 a0_3 a0_4 a0_5 a0_6 = some (r1, r2)) :
  Calls Tryz.prog 103 #[.agg #[.int .u64 a0_0, .int .i64 a0_1, .int .u64 a0_2, .int .i64 a0_3, .int .i64 a0_4, .bool a0_5, .int .i32 a0_6]] w fun e w' => e = .returned (.agg #[.string r1, .int .i64 r2]) ∧ Below w.heap.size w w' := by
 have hu74 := Tryz.underlying74
 have hu42 := Tryz.underlying42
 have HB := Aside0.mk (Below.refl w.heap.size w)
 have H : ((bigdec_Exact.f k a0_2 a0_3).bind fun bt199 => (some (bt199.1, bt199.2.1))) = some (r1, r2) := h
 clear h
 replace H := bs H
 obtain ⟨⟨t199, t200, t201⟩, A2, H⟩ := H
 dsimp only at H
 simp only [Option.some.injEq, Prod.mk.injEq] at H
 obtain ⟨rfl, rfl⟩ := H
 go_enter Tryz.func103, Tryz.ntmps103
 go_wp2_with (first | ((with_reducible refine gate_dst (N := 1) rfl ?_); refine box_event rfl (N := 1) rfl (cs := #[.int .u64 a0_0, .int .i64 a0_1, .int .u64 a0_2, .int .i64 a0_3, .int .i64 a0_4, .bool a0_5, .int .i32 a0_6]) (t := 74) gz ?_; intro gb197 hg w3 hbox hb; have GE197 := gN bz hg; have BK197 := Aside0.mk hbox; replace HB := bN bz hb; clear hb hbox hg) | ((with_reducible refine gate_dst (N := 2) rfl ?_); refine box_event rfl (N := 2) rfl (cs := #[.string (⟨#[]⟩ : ByteArray), .int .i64 0]) (t := 42) gz ?_; intro gb198 hg w4 hbox hb; have GE198 := gN bz hg; have NB197_198 := lN (g := gb197) (cs := #[.int .u64 a0_0, .int .i64 a0_1, .int .u64 a0_2, .int .i64 a0_3, .int .i64 a0_4, .bool a0_5, .int .i32 a0_6]) hg bk; have NB198_197 := rN (g := gb197) (cs := #[.int .u64 a0_0, .int .i64 a0_1, .int .u64 a0_2, .int .i64 a0_3, .int .i64 a0_4, .bool a0_5, .int .i32 a0_6]) hg bk; replace BK197 := kN (g := gb197) (cs := #[.int .u64 a0_0, .int .i64 a0_1, .int .u64 a0_2, .int .i64 a0_3, .int .i64 a0_4, .bool a0_5, .int .i32 a0_6]) hb bk; have BK198 := Aside0.mk hbox; replace HB := bN bz hb; clear hb hbox hg; have hnb5 := NB197_198.out; have hnc5 := NB198_197.out; obtain ⟨hcz6_0, hcz6_1, hcz6_2, hcz6_3, hcz6_4, hcz6_5, hcz6_6, hfz6_0, hfz6_1, hfz6_2, hfz6_3, hfz6_4, hfz6_5, hfz6_6⟩ := cz7 (W := w4) BK197) | ((with_reducible refine gate_callee (f := 29) rfl ?_); refine goesL_ (some 10) rfl rfl Tryz.func29 (by kernel_rfl) rfl #[.int .u64 a0_2, .int .i64 a0_3] rfl lz ?_; (with_reducible refine (bigdec_Exact.calls k a0_2 a0_3 t199 t200 t201 _ A2.out).mono ?_); rintro e w7 ⟨rfl, hb⟩; refine ⟨_, rfl, ?_⟩; replace BK197 := kN (g := gb197) (cs := #[.int .u64 a0_0, .int .i64 a0_1, .int .u64 a0_2, .int .i64 a0_3, .int .i64 a0_4, .bool a0_5, .int .i32 a0_6]) hb bk; replace BK198 := kN (g := gb198) (cs := #[.string (⟨#[]⟩ : ByteArray), .int .i64 0]) hb bk; replace HB := bN bz hb; (try clear hb); (try clear hb2); (try clear hk); (try clear hi)) | ((with_reducible refine gate_dst (N := 3) rfl ?_); refine box_event rfl (N := 3) rfl (cs := #[.string (⟨#[]⟩ : ByteArray), .int .i64 0]) (t := 42) gz ?_; intro gb202 hg w8 hbox hb; have GE202 := gN bz hg; have NB197_202 := lN (g := gb197) (cs := #[.int .u64 a0_0, .int .i64 a0_1, .int .u64 a0_2, .int .i64 a0_3, .int .i64 a0_4, .bool a0_5, .int .i32 a0_6]) hg bk; have NB202_197 := rN (g := gb197) (cs := #[.int .u64 a0_0, .int .i64 a0_1, .int .u64 a0_2, .int .i64 a0_3, .int .i64 a0_4, .bool a0_5, .int .i32 a0_6]) hg bk; have NB198_202 := lN (g := gb198) (cs := #[.string (⟨#[]⟩ : ByteArray), .int .i64 0]) hg bk; have NB202_198 := rN (g := gb198) (cs := #[.string (⟨#[]⟩ : ByteArray), .int .i64 0]) hg bk; replace BK197 := kN (g := gb197) (cs := #[.int .u64 a0_0, .int .i64 a0_1, .int .u64 a0_2, .int .i64 a0_3, .int .i64 a0_4, .bool a0_5, .int .i32 a0_6]) hb bk; replace BK198 := kN (g := gb198) (cs := #[.string (⟨#[]⟩ : ByteArray), .int .i64 0]) hb bk; have BK202 := Aside0.mk hbox; replace HB := bN bz hb; clear hb hbox hg; have hnb9 := NB202_197.out; have hnc9 := NB197_202.out; have hnb10 := NB202_198.out; have hnc10 := NB198_202.out; obtain ⟨hcz11_0, hcz11_1, hfz11_0, hfz11_1⟩ := cz2 (W := w8) BK202; obtain ⟨hcz12_0, hcz12_1, hfz12_0, hfz12_1⟩ := cz2 (W := w8) BK198))
 refine bodyPost_ret (results_cell_row rfl _ _ gb198 42 #[.string t199, .int .i64 t200] (0, 0) _ rfl bk Tryz.underlying42 rfl (by kernel_rfl)) rfl ?_
 exact ⟨ez, bz⟩
end Go.Proofs.YtecpgdfnamkfdaaGreatDoor.Fn
end
