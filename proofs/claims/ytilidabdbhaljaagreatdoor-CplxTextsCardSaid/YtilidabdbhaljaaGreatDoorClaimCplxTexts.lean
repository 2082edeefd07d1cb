/- The statement of the law CplxTexts, out of its pure form (Pure.CplxTexts) and the contract of its Go function: without a condition of ours. Written by the program rowgen.py (of this work). -/
import Derived.Test.YtilidabdbhaljaaGreatDoorMCplxTexts8
import Derived.Test.YtilidabdbhaljaaGreatDoorRows
import Derived.Test.YtilidabdbhaljaaGreatDoorTie
import Derived.Test.YtilidabdbhaljaaGreatDoorCards
import Derived.WalkKit
import Derived.ProofKit
import Derived.OpenShut
import Derived.ShutString
import Derived.ChangeOld
import Derived.Below
import Derived.SizedLaws
import Derived.LaidMore
import Derived.Lay
import Derived.SevenTiedAt
import Derived.Stop.Joined
import Derived.Carry
namespace Go.Proofs.YtilidabdbhaljaaGreatDoor.cplxTexts
open Go.ChangeShapes Go.WideShapes Go.ChangeAt Go.RowKit
open Go.ChangeMaps (open_string)
set_option linter.unusedVariables false
set_option linter.unusedSimpArgs false
theorem own : ownKnob Tryz.prog.godebug = none := by kernel_rfl
theorem laidOut : laidOutB Tryz.prog = true := by kernel_rfl
set_option maxRecDepth 100000 in
theorem open_26 {H : Type} {enc : TypeId × Value → H} {W : World} {b : Nat} {v : Value} {d : DataW H} {p : List MemPlace} (hv : Value.okWide Tryz.prog W .any b 26 v) (h : DataW.Trod enc Tryz.prog W 0 (fun _ => true) true 26 v d p) :
    ∃ (x0 : Bool) (x1 : Bool) (x2 : Bool) (x3 : Bool) (x4 : Bool) (x5 : Int) (x6 : Int) (x7 : Int), v = .agg #[.bool x0, .bool x1, .bool x2, .bool x3, .bool x4, .int .i64 x5, .int .i64 x6, .int .i32 x7] ∧ (Lit.int .i64 x5).wf = true ∧ (Lit.int .i64 x6).wf = true ∧ (Lit.int .i32 x7).wf = true := by
  obtain ⟨cs, rfl, hsz⟩ := okWide_struct Tryz.underlying26 hv
  obtain ⟨fuel, hf⟩ := h
  obtain ⟨xs, n, _, _, hl, hlen, hfld⟩ := DataW.trod_struct Tryz.underlying26 hf
  have hc : Tryz.prog.cellsOf 26 = 8 := by kernel_rfl
  rw [hc] at hsz
  have k3 : Tryz.prog.cellsOf 3 = 1 := by kernel_rfl
  have k4 : Tryz.prog.cellsOf 4 = 1 := by kernel_rfl
  have k21 : Tryz.prog.cellsOf 21 = 1 := by kernel_rfl
  obtain ⟨l⟩ := cs
  match l, hsz, xs, hlen with
  | [c0, c1, c2, c3, c4, c5, c6, c7], _, [y0, y1, y2, y3, y4, y5, y6, y7], _ =>
    have e0 : DataW.trod enc Tryz.prog W 0 (fun _ => true) true n 4 [c0] = some y0 := by simpa [Value.cells, k4] using hfld 0 _ rfl
    obtain ⟨x0, q0, _⟩ := DataW.trod_bool Tryz.underlying4 e0
    obtain rfl := List.head_eq_of_cons_eq q0
    have e1 : DataW.trod enc Tryz.prog W 0 (fun _ => true) true n 4 [c1] = some y1 := by simpa [Value.cells, k4] using hfld 1 _ rfl
    obtain ⟨x1, q1, _⟩ := DataW.trod_bool Tryz.underlying4 e1
    obtain rfl := List.head_eq_of_cons_eq q1
    have e2 : DataW.trod enc Tryz.prog W 0 (fun _ => true) true n 4 [c2] = some y2 := by simpa [Value.cells, k4] using hfld 2 _ rfl
    obtain ⟨x2, q2, _⟩ := DataW.trod_bool Tryz.underlying4 e2
    obtain rfl := List.head_eq_of_cons_eq q2
    have e3 : DataW.trod enc Tryz.prog W 0 (fun _ => true) true n 4 [c3] = some y3 := by simpa [Value.cells, k4] using hfld 3 _ rfl
    obtain ⟨x3, q3, _⟩ := DataW.trod_bool Tryz.underlying4 e3
    obtain rfl := List.head_eq_of_cons_eq q3
    have e4 : DataW.trod enc Tryz.prog W 0 (fun _ => true) true n 4 [c4] = some y4 := by simpa [Value.cells, k4] using hfld 4 _ rfl
    obtain ⟨x4, q4, _⟩ := DataW.trod_bool Tryz.underlying4 e4
    obtain rfl := List.head_eq_of_cons_eq q4
    have e5 : DataW.trod enc Tryz.prog W 0 (fun _ => true) true n 3 [c5] = some y5 := by simpa [Value.cells, k3] using hfld 5 _ rfl
    obtain ⟨x5, q5, _, w5⟩ := DataW.trod_int Tryz.underlying3 e5
    obtain rfl := List.head_eq_of_cons_eq q5
    have e6 : DataW.trod enc Tryz.prog W 0 (fun _ => true) true n 3 [c6] = some y6 := by simpa [Value.cells, k3] using hfld 6 _ rfl
    obtain ⟨x6, q6, _, w6⟩ := DataW.trod_int Tryz.underlying3 e6
    obtain rfl := List.head_eq_of_cons_eq q6
    have e7 : DataW.trod enc Tryz.prog W 0 (fun _ => true) true n 21 [c7] = some y7 := by simpa [Value.cells, k21] using hfld 7 _ rfl
    obtain ⟨x7, q7, _, w7⟩ := DataW.trod_int Tryz.underlying21 e7
    obtain rfl := List.head_eq_of_cons_eq q7
    exact ⟨x0, x1, x2, x3, x4, x5, x6, x7, rfl, w5, w6, w7⟩
set_option maxRecDepth 100000 in
theorem open_34 {H : Type} {enc : TypeId × Value → H} {W : World} {b : Nat} {v : Value} {d : DataW H} {p : List MemPlace} (hv : Value.okWide Tryz.prog W .any b 34 v) (h : DataW.Trod enc Tryz.prog W 0 (fun _ => true) true 34 v d p) :
    ∃ (x0 : Int) (x1 : Int), v = .agg #[.int .u64 x0, .int .u64 x1] ∧ (Lit.int .u64 x0).wf = true ∧ (Lit.int .u64 x1).wf = true := by
  obtain ⟨cs, rfl, hsz⟩ := okWide_struct Tryz.underlying34 hv
  obtain ⟨fuel, hf⟩ := h
  obtain ⟨xs, n, _, _, hl, hlen, hfld⟩ := DataW.trod_struct Tryz.underlying34 hf
  have hc : Tryz.prog.cellsOf 34 = 2 := by kernel_rfl
  rw [hc] at hsz
  have k22 : Tryz.prog.cellsOf 22 = 1 := by kernel_rfl
  obtain ⟨l⟩ := cs
  match l, hsz, xs, hlen with
  | [c0, c1], _, [y0, y1], _ =>
    have e0 : DataW.trod enc Tryz.prog W 0 (fun _ => true) true n 22 [c0] = some y0 := by simpa [Value.cells, k22] using hfld 0 _ rfl
    obtain ⟨x0, q0, _, w0⟩ := DataW.trod_int Tryz.underlying22 e0
    obtain rfl := List.head_eq_of_cons_eq q0
    have e1 : DataW.trod enc Tryz.prog W 0 (fun _ => true) true n 22 [c1] = some y1 := by simpa [Value.cells, k22] using hfld 1 _ rfl
    obtain ⟨x1, q1, _, w1⟩ := DataW.trod_int Tryz.underlying22 e1
    obtain rfl := List.head_eq_of_cons_eq q1
    exact ⟨x0, x1, rfl, w0, w1⟩
set_option maxRecDepth 100000 in
theorem lifted (os : Os) (started : os.Started) (H : Type) (enc : TypeId × Value → H) :
    ReturnsInHanded {} Tryz.checked os 7 .any (fun w args => (Rows.cplxTextsSpec.pre enc Tryz.prog Tryz.f7 Rows.cplxTextsRow.domain false w args ∧ laidMetH Tryz.prog Rows.cplxTextsRow.laid w) ∧ sizedMet enc Tryz.prog Tryz.f7 (OpenSpec.ofChange Rows.cplxTextsSpec) false w args)
      (Rows.cplxTextsSpec.post enc Tryz.prog Tryz.f7 false true false false) := by
  refine returnsInHanded_of_change_and (C := Tryz.checked) (X := fun w _ => laidMetH Tryz.prog Rows.cplxTextsRow.laid w) (fun _ _ _ hh h => h.of_heap hh) own started (by kernel_rfl) Tryz.func7
    (ChangeSpec.witness_shaped (enc := enc) (C := Tryz.checked) (os := os) (X := fun w _ => laidMetH Tryz.prog Rows.cplxTextsRow.laid w) false (World.laidAll Tryz.prog os Rows.cplxTextsRow.laid) #[.agg #[.int .u64 0, .int .u64 0], .int .i64 0, .agg #[.bool false, .bool false, .bool false, .bool false, .bool false, .int .i64 0, .int .i64 0, .int .i32 0]] 8 (World.laidAll_os _ _ _)
      (World.shaped_of_ZipB (by kernel_rfl) (by kernel_rfl)) (by kernel_rfl) (by kernel_rfl) (by kernel_rfl)
      (by rw [MakeChecks.laidMetH_plain _ _ _ (by kernel_rfl)]; exact laidMet_laidAll _ (by kernel_rfl) (by kernel_rfl))) ?_
  intro W base args ds gs before hval0 hW hcnd hsz0 hL _
  have hval : ∀ (j : Nat) t v, Tryz.f7.params[j]? = some t → args[j]? = some v → Value.okWide Tryz.prog W .any base t v := hval0
  have hW' := hW
  obtain ⟨p, q, hA0, hV, rfl, hfz, hnd⟩ := hW
  have hA : DataW.TrodAll enc Tryz.prog W 0 (fun _ => true) true Tryz.f7.params.toList args.toList ds p := hA0
  rw [Tryz.params7] at hA hval
  obtain ⟨v0, vs0, d0, ds0, p0, q0, hargs, rfl, rfl, h0, r0⟩ := trodAll_cons hA
  obtain ⟨v1, vs1, d1, ds1, p1, q1, rfl, rfl, rfl, h1, r1⟩ := trodAll_cons r0
  obtain ⟨v2, vs2, d2, ds2, p2, q2, rfl, rfl, rfl, h2, r2⟩ := trodAll_cons r1
  obtain ⟨rfl, rfl, rfl⟩ := trodAll_nil r2
  obtain rfl : args = #[v0, v1, v2] := by cases args; simp_all
  obtain ⟨rfl, rfl⟩ := trodVars_none hV
  have b0 := h0
  have lt0 : ∀ x ∈ p0, x.block < W.heap.size := by obtain ⟨m, hm⟩ := b0; exact DataW.trod_lt m _ _ _ hm
  obtain ⟨a0_0, a0_1, rfl, wa0_0, wa0_1⟩ := open_34 (hval 0 34 v0 rfl rfl) h0
  have b1 := h1
  have lt1 : ∀ x ∈ p1, x.block < W.heap.size := by obtain ⟨m, hm⟩ := b1; exact DataW.trod_lt m _ _ _ hm
  obtain ⟨a1, rfl, _, _, wa1⟩ := open_int Tryz.underlying3 (hval 1 3 v1 rfl rfl) h1
  have b2 := h2
  have lt2 : ∀ x ∈ p2, x.block < W.heap.size := by obtain ⟨m, hm⟩ := b2; exact DataW.trod_lt m _ _ _ hm
  obtain ⟨a2_0, a2_1, a2_2, a2_3, a2_4, a2_5, a2_6, a2_7, rfl, wa2_5, wa2_6, wa2_7⟩ := open_26 (hval 2 26 v2 rfl rfl) h2
  clear hA0 hval0 hsz0
  obtain ⟨k, hk⟩ := Pure.CplxTexts a0_0 a0_1 a1 a2_0 a2_1 a2_2 a2_3 a2_4 a2_5 a2_6 a2_7 wa0_0 wa0_1 wa1 wa2_5 wa2_6 wa2_7
  refine (Fn.platenlaw07_CplxTexts.calls k a0_0 a0_1 a1 a2_0 a2_1 a2_2 a2_3 a2_4 a2_5 a2_6 a2_7 true W hk).mono fun e W' ⟨he, bel⟩ => ?_
  subst he
  exact ⟨_, rfl, _, _, _, [], _, [], hW', trodAll_mk1 (shut_bool Tryz.underlying4 _), (trodAll_cons_mk (Below.trod laidOut (by kernel_rfl) (of_decide_eq_true (by kernel_rfl)) b0 bel lt0) (trodAll_cons_mk (Below.trod laidOut (by kernel_rfl) (of_decide_eq_true (by kernel_rfl)) b1 bel lt1) (trodAll_cons_mk (Below.trod laidOut (by kernel_rfl) (of_decide_eq_true (by kernel_rfl)) b2 bel lt2) trodAll_mk0))), rfl, bel.frame _, fun h => by cases h⟩
set_option maxHeartbeats 8000000 in
theorem closed : joinedFacts Tryz.pinned.checked.prog 7 Tryz.f7 Rows.cplxTextsSpec Rows.cplxTextsRow = true := by
  unfold joinedFacts
  simp only [Bool.and_eq_true]
  repeat' (with_reducible apply And.intro)
  all_goals (as_aux_lemma => kernel_rfl)
theorem over : Rows.cplxTextsRow.holds Tryz.pinned (OpenSpec.ofChange Rows.cplxTextsSpec) :=
  OpenClaim.holds_of_wide 7 Tryz.f7 rfl rfl rfl rfl rfl rfl rfl ⟨rfl, rfl, rfl, rfl, rfl⟩ rfl rfl rfl rfl rfl (by kernel_rfl) Tryz.func7 closed
    (of_decide_eq_true (by kernel_rfl)) (by unfold Func.isWrapper; first | (rw [if_pos (by decide +kernel)]; kernel_rfl) | (rw [if_neg (by decide +kernel)]; exact ⟨rfl, rfl⟩))
    (fun os started H enc _ => lifted os started H enc)
theorem said : Rows.CplxTextsSaid := over
theorem card : Rows.CplxTextsCardSaid :=
  Claim7.holds_tied_plain_at .later [] [.data, .pinned, .pinned] true (true, "a182d47b2bc49d6ea3d140715521b51a61ff91648995ee6e48257409dd8affd5") false
    over (fun _ h => by cases h) (by kernel_rfl) (fun _ h => by cases h) cplxTexts_row_tie rfl ⟨rfl, rfl⟩ (by kernel_rfl) rfl
    (fun f fn hf hfn => by
      obtain rfl : f = 7 := Option.some.inj ((show Tryz.prog.funcNamed "platen/platenlaw07.CplxTexts" = some 7 by kernel_rfl).symm.trans hf) |>.symm
      obtain rfl : fn = Tryz.f7 := (Option.some.inj (Tryz.func7.symm.trans hfn)).symm
      exact ⟨by kernel_rfl, fun j t ht => by
        rw [Tryz.params7] at ht
        have hm : t ∈ [34, 3, 26] := by simpa using Array.mem_of_getElem? ht
        have hall : ([34, 3, 26].all fun u => !Tryz.prog.wantsStandIn u) = true := by kernel_rfl
        exact (show Tryz.prog.wantsStandIn t = false by simpa using List.all_eq_true.1 hall t hm)⟩)
    (by kernel_rfl)
#print axioms card
end Go.Proofs.YtilidabdbhaljaaGreatDoor.cplxTexts
namespace Go.Proofs.YtilidabdbhaljaaGreatDoor
/-- The statement, under a short name, for the claim. -/
theorem cplxTexts_proved : Rows.CplxTextsCardSaid := cplxTexts.card
end Go.Proofs.YtilidabdbhaljaaGreatDoor
