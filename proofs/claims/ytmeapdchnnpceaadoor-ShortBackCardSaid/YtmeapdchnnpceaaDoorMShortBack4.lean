/- The law ShortBack: the walks through its functions and its plain law (part 4). Own texts and the kit's printed words for this seat, without what the law does not use: put together by merge.py (of this work). -/
import Derived.Test.YtmeapdchnnpceaaDoorMShortBack3
import Derived.Handy
section
namespace Go.Proofs.YtmeapdchnnpceaaDoor.Pure
open Go.RowKit Go.Proofs.YtmeapdchnnpceaaDoorW.PrintWords Go.Proofs.YtmeapdchnnpceaaDoor.Fn
set_option linter.unusedVariables false
set_option linter.unusedSimpArgs false
theorem one_decOf (u : Int) : (S ([49] : List UInt8), u + 1) = (S (decOf 1 u).1, (decOf 1 u).2) := by
  unfold decOf
  rw [if_neg (by omega)]
  have h1 : digs 1 = [49] := rfl
  rw [h1]
  have h2 : rz [49] = [49] := rfl
  rw [h2]
  simp
  omega
theorem normS_all {l : List UInt8} (h : AllD l) {p : Int} (hl : l.length ≤ 2000) (hp : -5000 ≤ p ∧ p ≤ 5000) : normS (S l) p = (S (decOf (val l) (p - l.length)).1, (decOf (val l) (p - l.length)).2, 0) := by
  unfold normS normTail
  rw [if_neg (by rw [size_S]; omega), L_S, if_pos (all_isD h), if_neg (by omega), if_neg (by omega), formL_eq h]
  rfl
theorem dec_bound {n k : Nat} {e : Int} (h : n < 10 ^ k) (hk : k ≤ 1400) (he : -3000 ≤ e) (h2 : e + k ≤ 3000) : (decOf n e).1.length ≤ 2000 ∧ -5000 ≤ (decOf n e).2 ∧ (decOf n e).2 ≤ 5000 := by
  have := decOf_bound h e
  omega
structure Val (wide : Bool) (p : Nat) (v : List UInt8 × Int) : Prop where
  form : InForm v.1 v.2
  len : v.1.length ≤ 1300
  lo : -1200 ≤ v.2
  hi : v.2 ≤ 1300
def cU (v : List UInt8 × Int) (n : Nat) : Nat := val (v.1.take n)
def cE (v : List UInt8 × Int) (n : Nat) : Int := v.2 - n
def isP (wide : Bool) (p : Nat) (n : Nat) (x : Int) : Prop := rdX wide (dX wide n x) = p
instance (wide : Bool) (p n : Nat) (x : Int) : Decidable (isP wide p n x) := by unfold isP; infer_instance
def nearU (v : List UInt8 × Int) (n : Nat) : Nat := if downP v.1 n then cU v n else cU v n + 1
def bestD (wide : Bool) (p : Nat) (v : List UInt8 × Int) (n : Nat) : Option (List UInt8 × Int) :=
  if v.1.length ≤ n then some v
  else if isP wide p (nearU v n) (cE v n) then some (decOf (nearU v n) (cE v n))
  else if isP wide p (cU v n) (cE v n) then some (decOf (cU v n) (cE v n))
  else if isP wide p (cU v n + 1) (cE v n) then some (decOf (cU v n + 1) (cE v n)) else none
def optD (o : Option (List UInt8 × Int)) : ByteArray × Int × Bool := match o with
  | some d => (S d.1, d.2, true)
  | none => (⟨#[]⟩, 0, false)
structure Span (wide : Bool) (p : Nat) (lo hi : List UInt8 × Int) : Prop where
  f1 : InForm lo.1 lo.2
  f2 : InForm hi.1 hi.2
  b1 : lo.1.length ≤ 2000 ∧ -5000 ≤ lo.2 ∧ lo.2 ≤ 5000
  b2 : hi.1.length ≤ 2000 ∧ -5000 ≤ hi.2 ∧ hi.2 ≤ 5000
  c1 : ∀ (n : Nat) (x : Int), -(vv : Int) ≤ x → cmpD lo.1 lo.2 (decOf n x).1 (decOf n x).2 = cmpN (loX wide p) (dX wide n x)
  c2 : ∀ (n : Nat) (x : Int), -(vv : Int) ≤ x → cmpD hi.1 hi.2 (decOf n x).1 (decOf n x).2 = cmpN (hiX wide p) (dX wide n x)
theorem in_ev {wide : Bool} {p : Nat} {lo hi : List UInt8 × Int} (hs : Span wide p lo hi) (hp : 0 < p) (hi2 : p < ii wide) {n k : Nat} {e : Int} (h : n < 10 ^ k) (hk : k ≤ 1400) (he : -3000 ≤ e) (h2 : e + k ≤ 3000) :
    Ev (fun r => short_span_in.f r (S lo.1) lo.2 (S hi.1) hi.2 (decide (p % 2 = 0)) (S (decOf n e).1) (decOf n e).2) (decide (isP wide p n e)) := by
  have hv := vv_eq
  exact span_ev wide p _ rfl rfl rfl hs.f1 hs.f2 (inForm_decOf n e) hs.b1 hs.b2 (dec_bound h hk he h2) (hs.c1 n e (by omega)) (hs.c2 n e (by omega)) _ (by rw [decide_eq_true_iff]; exact (inX_iff wide hp hi2 _).symm)
theorem cU_lt {wide : Bool} {p : Nat} {v : List UInt8 × Int} (hv : Val wide p v) (n : Nat) (hn : n < v.1.length) : cU v n < 10 ^ n := by
  have := val_lt (hv.form.1.take n)
  rw [List.length_take, Nat.min_eq_left (by omega)] at this
  exact this
theorem nearU_two (v : List UInt8 × Int) (n : Nat) : nearU v n = cU v n ∨ nearU v n = cU v n + 1 := by
  unfold nearU
  split
  · exact .inl rfl
  · exact .inr rfl
theorem round_v {wide : Bool} {p : Nat} {v : List UInt8 × Int} (hv : Val wide p v) (n : Nat) (hn : n < v.1.length) : roundN v.1 v.2 (n : Int) = decOf (nearU v n) (cE v n) := by
  unfold roundN nearU cU cE
  rw [if_neg (by omega), if_neg (by omega), Int.toNat_natCast]
  by_cases c : downP v.1 n
  · rw [if_pos c, if_pos c]
  · rw [if_neg c, if_neg c]
theorem Val.five {wide : Bool} {p : Nat} {v : List UInt8 × Int} (hv : Val wide p v) : v.1.length ≤ 2000 ∧ -5000 ≤ v.2 ∧ v.2 ≤ 5000 := by
  have := hv.len
  have := hv.lo
  have := hv.hi
  omega
theorem best_ev {wide : Bool} {p : Nat} {lo hi v : List UInt8 × Int} (hs : Span wide p lo hi) (hv : Val wide p v) (hp : 0 < p) (hi2 : p < ii wide) (n : Nat) :
    Ev (fun k => short_best.f k (S v.1) v.2 (n : Int) (S lo.1) lo.2 (S hi.1) hi.2 (decide (p % 2 = 0))) (optD (bestD wide p v n)) := by
  have hl := hv.len
  have hlo := hv.lo
  have hhi := hv.hi
  have h5 := hv.five
  unfold short_best.f bestD
  rw [size_S]
  by_cases c1 : v.1.length ≤ n
  · rw [if_pos c1]
    exact Ev.congr (fun k => if_pos (by omega)) (Ev.now _)
  · rw [if_neg c1]
    refine Ev.congr (fun k => if_neg (by omega)) ?_
    have hn : n < v.1.length := by omega
    have hu := cU_lt hv n hn
    have hu1 : cU v n + 1 < 10 ^ (n + 1) := by
      rw [Nat.pow_succ]
      have : 1 ≤ 10 ^ n := Nat.pow_pos (by omega)
      omega
    have hE : -3000 ≤ cE v n ∧ cE v n + ((n + 1 : Nat) : Int) ≤ 3000 := by unfold cE; omega
    have hnr : nearU v n < 10 ^ (n + 1) := by rcases nearU_two v n with h | h <;> rw [h] <;> omega
    have hr := roundS_eq (S v.1) v.2 (n : Int)
    have e1 : roundS (S v.1) v.2 (fun _ => (n : Int)) = (S (decOf (nearU v n) (cE v n)).1, (decOf (nearU v n) (cE v n)).2, 0) := by
      unfold roundS
      rw [normS_ok hv.form h5.1 h5.2, if_pos rfl]
      simp only [L_S]
      rw [round_v hv n hn]
      rfl
    rw [e1] at hr
    refine Ev.bind hr ?_
    refine Ev.bind (in_ev hs hp hi2 hnr (by omega) hE.1 hE.2) ?_
    by_cases c2 : isP wide p (nearU v n) (cE v n)
    · rw [if_pos c2]
      refine Ev.congr (fun k => if_pos (decide_eq_true c2)) (Ev.now _)
    · rw [if_neg c2]
      refine Ev.congr (fun k => if_neg (fun h => c2 (of_decide_eq_true h))) ?_
      refine Ev.congr (fun k => if_pos (by omega)) ?_
      refine Ev.congr (fun k => if_pos (by omega)) ?_
      rw [Int.toNat_natCast, S_take]
      have hnm := norm_eq (S (v.1.take n)) v.2
      have htl : (v.1.take n).length = n := by rw [List.length_take, Nat.min_eq_left (by omega)]
      rw [normS_all (hv.form.1.take n) (by omega) h5.2, htl] at hnm
      rw [show val (v.1.take n) = cU v n from rfl, show v.2 - (n : Int) = cE v n from rfl] at hnm
      refine Ev.bind hnm ?_
      have hw : wrap64 (wrap64 (v.2 - (n : Int)) + 1) = cE v n + 1 := by
        unfold cE
        rw [wrap_id (x := v.2 - (n : Int)) (by omega) (by omega), wrap_id (by omega) (by omega)]
      rw [hw]
      have hone := one_decOf (cE v n)
      have ho1 : (S ([49] : List UInt8)) = S (decOf 1 (cE v n)).1 := congrArg Prod.fst hone
      have ho2 : cE v n + 1 = (decOf 1 (cE v n)).2 := congrArg Prod.snd hone
      have hadd := addS_eq (S (decOf (cU v n) (cE v n)).1) (decOf (cU v n) (cE v n)).2 (S (decOf 1 (cE v n)).1) (decOf 1 (cE v n)).2
      have hE' : cE v n + (n : Int) ≤ 3000 := by omega
      have hE1 : cE v n + ((1 : Nat) : Int) ≤ 3000 := by omega
      rw [addS_ok (inForm_decOf _ _) (inForm_decOf _ _) (dec_bound hu (by omega) hE.1 hE') (dec_bound (n := 1) (k := 1) (by decide) (by decide) hE.1 hE1)] at hadd
      have e2 : addD (decOf (cU v n) (cE v n)).1 (decOf (cU v n) (cE v n)).2 (decOf 1 (cE v n)).1 (decOf 1 (cE v n)).2 = (S (decOf (cU v n + 1) (cE v n)).1, (decOf (cU v n + 1) (cE v n)).2, 0) := by
        unfold addD
        rw [sum_decOf, if_neg (by have := (dec_bound hu1 (by omega) hE.1 hE.2).1; omega)]
        rfl
      rw [e2, ← ho1, ← ho2] at hadd
      refine Ev.bind (g := fun k => bigdec_Add.f k (S (decOf (cU v n) (cE v n)).1) (decOf (cU v n) (cE v n)).2 (⟨#[49]⟩ : ByteArray) (cE v n + 1)) hadd ?_
      refine Ev.step (fun k => by simp only [short_best.l0]; rfl) ?_
      refine Ev.congr (fun k => if_pos (by simp)) ?_
      refine Ev.congr (fun k => if_pos (by simp)) ?_
      refine Ev.bind (in_ev hs hp hi2 hu (by omega) hE.1 hE') ?_
      by_cases c3 : isP wide p (cU v n) (cE v n)
      · rw [if_pos c3]
        exact Ev.congr (fun k => if_pos (decide_eq_true c3)) (Ev.now _)
      · rw [if_neg c3]
        refine Ev.congr (fun k => if_neg (fun h => c3 (of_decide_eq_true h))) ?_
        rw [show wrap64 ((0 : Int) + 1) = 1 by simp [wrap64]]
        refine Ev.step (fun k => by simp only [short_best.l0]; rfl) ?_
        refine Ev.congr (fun k => if_pos (by simp)) ?_
        refine Ev.congr (fun k => if_neg (by simp)) ?_
        refine Ev.congr (fun k => if_pos (by simp)) ?_
        refine Ev.bind (in_ev hs hp hi2 hu1 (by omega) hE.1 hE.2) ?_
        by_cases c4 : isP wide p (cU v n + 1) (cE v n)
        · rw [if_pos c4]
          exact Ev.congr (fun k => if_pos (decide_eq_true c4)) (Ev.now _)
        · rw [if_neg c4]
          refine Ev.congr (fun k => if_neg (fun h => c4 (of_decide_eq_true h))) ?_
          rw [show wrap64 ((1 : Int) + 1) = 2 by simp [wrap64]]
          refine Ev.step (fun k => by simp only [short_best.l0]; rfl) ?_
          exact Ev.congr (fun k => if_neg (by simp)) (Ev.now _)
def shortGo (wide : Bool) (p : Nat) (v : List UInt8 × Int) : Nat → Nat → List UInt8 × Int
  | 0, _ => v
  | d + 1, n => match bestD wide p v n with
    | some r => r
    | none => shortGo wide p v d (n + 1)
theorem best_all (wide : Bool) (p : Nat) (v : List UInt8 × Int) {n : Nat} (h : v.1.length ≤ n) : bestD wide p v n = some v := by
  unfold bestD
  rw [if_pos h]
theorem loop_ev {wide : Bool} {p : Nat} {lo hi v : List UInt8 × Int} (hs : Span wide p lo hi) (hv : Val wide p v) (hp : 0 < p) (hi2 : p < ii wide) : ∀ (d n : Nat), v.1.length ≤ n + d → n ≤ 2000 →
    Ev (fun k => short_Shortest.l0 k (n : Int) (S v.1) v.2 (S lo.1) lo.2 (S hi.1) hi.2 (decide (p % 2 = 0))) (S (shortGo wide p v d n).1, (shortGo wide p v d n).2, 0) := by
  intro d
  induction d with
  | zero =>
    intro n h hn
    have hb := best_ev hs hv hp hi2 n
    rw [best_all wide p v (n := n) h] at hb
    refine Ev.step (fun k => by simp only [short_Shortest.l0]; rfl) ?_
    refine Ev.bind hb ?_
    exact Ev.congr (fun k => if_pos rfl) (Ev.now _)
  | succ d ih =>
    intro n h hn
    have hb := best_ev hs hv hp hi2 n
    refine Ev.step (fun k => by simp only [short_Shortest.l0]; rfl) ?_
    refine Ev.bind hb ?_
    unfold shortGo
    cases hbd : bestD wide p v n with
    | some r => exact Ev.congr (fun k => if_pos rfl) (Ev.now _)
    | none =>
      refine Ev.congr (fun k => if_neg (by decide)) ?_
      have hlen := hv.len
      have hn2 : n < v.1.length := by
        refine Nat.lt_of_not_le fun c => ?_
        rw [best_all wide p v c] at hbd
        cases hbd
      rw [wrap_id (by omega) (by omega), show ((n : Int) + 1) = ((n + 1 : Nat) : Int) by omega]
      exact ih (n + 1) (by omega) (by omega)
def exV (wide : Bool) (p : Nat) : List UInt8 × Int := exD (fM (ff wide) p) ((fE (ff wide) p : Int) - (ll wide : Int))
theorem exV_val (wide : Bool) {p : Nat} (hp : p < ii wide) : Val wide p (exV wide p) := by
  have h1 := fEl wide (Nat.le_of_lt hp)
  have h2 := fE_le wide (Nat.le_of_lt hp)
  have h := exD_small (m := fM (ff wide) p) (by omega) (e := (fE (ff wide) p : Int) - (ll wide : Int)) (by omega)
  exact ⟨exD_form _ _, h.1, h.2.1, h.2.2⟩
def shortD (wide : Bool) (p : Nat) : List UInt8 × Int := shortGo wide p (exV wide p) (exV wide p).1.length 1
def shortS (wide : Bool) (a : Nat) : ByteArray × Int × Int :=
  if ii wide ≤ bareN wide a then (⟨#[]⟩, 0, 1) else if bareN wide a = 0 then (⟨#[]⟩, 0, 0) else (S (shortD wide (bareN wide a)).1, (shortD wide (bareN wide a)).2, 0)
theorem hi_span (wide : Bool) {p : Nat} (hp : 0 < p) (hi : p < ii wide) {lo : List UInt8 × Int} (f1 : InForm lo.1 lo.2) (b1 : lo.1.length ≤ 2000 ∧ -5000 ≤ lo.2 ∧ lo.2 ≤ 5000)
    (c1 : ∀ (n : Nat) (x : Int), -(vv : Int) ≤ x → cmpD lo.1 lo.2 (decOf n x).1 (decOf n x).2 = cmpN (loX wide p) (dX wide n x)) :
    Span wide p lo (exD (2 * fM (ff wide) p + 1) ((fE (ff wide) p : Int) - (ll wide : Int) - 1)) := by
  have h1 := fEl wide (Nat.le_of_lt hi)
  have h2 := fE_le wide (Nat.le_of_lt hi)
  have h := exD_small (m := 2 * fM (ff wide) p + 1) (by omega) (e := (fE (ff wide) p : Int) - (ll wide : Int) - 1) (by omega)
  exact ⟨f1, exD_form _ _, b1, by omega, c1, fun n x hx => cmp_hi wide p n x hx⟩
theorem j1_ev {wide : Bool} {p : Nat} {lo hi : List UInt8 × Int} (hs : Span wide p lo hi) (hp : 0 < p) (hi2 : p < ii wide) :
    Ev (fun k => short_Shortest.j1 k (p : Int) (ff wide : Int) (-(ll wide : Int)) (ii wide : Int) (S lo.1) lo.2 (S hi.1) hi.2 (decide (p % 2 = 0))) (S (shortD wide p).1, (shortD wide p).2, 0) := by
  refine Ev.step (fun k => by simp only [short_Shortest.j1]; rfl) ?_
  have hsh := shapeExact_ev wide (Nat.le_of_lt hi2)
  refine Ev.bind hsh ?_
  exact loop_ev hs (exV_val wide hi2) hp hi2 (exV wide p).1.length 1 (by omega) (by omega)
theorem shortest_eq (wide : Bool) (a : Nat) (ha : a < 18446744073709551616) : Ev (fun k => short_Shortest.f k (a : Int) (szB wide)) (shortS wide a) := by
  obtain ⟨j, hj, ht, hw⟩ := tt_pow wide
  have hi := ii_lt wide
  have hmt := Nat.mod_lt a (tt_le wide).1
  have htt := (tt_le wide).2
  unfold short_Shortest.f
  rw [of_eq']
  simp only [Option.bind_some, if_true]
  rw [hw]
  refine Ev.congr (fun k => if_pos (by omega)) ?_
  rw [mask_one _ hj, and_mask _ _ (by omega) ha, ← ht]
  unfold shortS bareN
  obtain ⟨p, hp⟩ : ∃ p, a % tt wide = p := ⟨_, rfl⟩
  rw [hp] at hmt ⊢
  by_cases c1 : ii wide ≤ p
  · rw [if_pos c1]
    exact Ev.congr (fun k => if_pos (by omega)) (Ev.now _)
  · rw [if_neg c1]
    refine Ev.congr (fun k => if_neg (by omega)) ?_
    rw [value_eq wide p (by omega)]
    simp only [Option.bind_some]
    by_cases c2 : p = 0
    · rw [if_pos c2]
      have h0 : fM (ff wide) p = 0 := by rw [c2]; cases wide <;> decide
      exact Ev.congr (fun k => if_pos (by omega)) (Ev.now _)
    · rw [if_neg c2]
      have hp0 : 0 < p := by omega
      have hlt : p < ii wide := by omega
      have hm := fM_pos (f := ff wide) hp0
      refine Ev.congr (fun k => if_neg (by omega)) ?_
      have h1 := fEl wide (Nat.le_of_lt hlt)
      have h2 := fE_le wide (Nat.le_of_lt hlt)
      obtain ⟨e, he⟩ : ∃ e : Int, (fE (ff wide) p : Int) - (ll wide : Int) = e := ⟨_, rfl⟩
      have hlo2 := cmp_lo2 wide hp0
      have hlo1 := cmp_lo1 wide hp0
      have hsp := fun lo => @hi_span wide p hp0 hlt lo
      have hll := ll_two wide
      rw [he] at h1 hlo1 hlo2 hsp ⊢
      obtain ⟨m, hmm⟩ : ∃ m, fM (ff wide) p = m := ⟨_, rfl⟩
      rw [hmm] at hm h2 hlo1 hlo2 hsp ⊢
      have e1 : IntKind.u64.wrap (IntKind.u64.wrap (2 * (m : Int)) + 1) = ((2 * m + 1 : Nat) : Int) := by
        rw [show (2 : Int) * (m : Int) = ((2 * m : Nat) : Int) by omega, u64N _ (by omega), show (((2 * m : Nat) : Int) + 1) = ((2 * m + 1 : Nat) : Int) by omega, u64N _ (by omega)]
      have e2 : IntKind.u64.wrap (IntKind.u64.wrap (2 * (m : Int)) - 1) = ((2 * m - 1 : Nat) : Int) := by
        rw [show (2 : Int) * (m : Int) = ((2 * m : Nat) : Int) by omega, u64N _ (by omega), show (((2 * m : Nat) : Int) - 1) = ((2 * m - 1 : Nat) : Int) by omega, u64N _ (by omega)]
      have e4 : IntKind.u64.wrap (IntKind.u64.wrap (4 * (m : Int)) - 1) = ((4 * m - 1 : Nat) : Int) := by
        rw [show (4 : Int) * (m : Int) = ((4 * m : Nat) : Int) by omega, u64N _ (by omega), show (((4 * m : Nat) : Int) - 1) = ((4 * m - 1 : Nat) : Int) by omega, u64N _ (by omega)]
      have w1 : wrap64 (e - 1) = e - 1 := wrap_id (by omega) (by omega)
      have w2 : wrap64 (e - 2) = e - 2 := wrap_id (by omega) (by omega)
      have x1 := exact_eq (2 * m + 1) (e - 1) (by omega)
      rw [exactS_exD _ (by omega)] at x1
      have x2 := exact_eq (2 * m - 1) (e - 1) (by omega)
      rw [exactS_exD _ (by omega)] at x2
      have x4 := exact_eq (4 * m - 1) (e - 2) (by omega)
      rw [exactS_exD _ (by omega)] at x4
      have s2 := exD_small (m := 2 * m - 1) (by omega) (e := e - 1) (by omega)
      have s4 := exD_small (m := 4 * m - 1) (by omega) (e := e - 2) (by omega)
      rw [e1, w1, e2]
      refine Ev.bind x1 ?_
      refine Ev.bind x2 ?_
      refine Ev.congr (fun k => if_pos (by omega)) ?_
      have hpar : (Int.tmod (m : Int) 2 == 0) = decide (p % 2 = 0) := by
        rw [show (2 : Int) = ((2 : Nat) : Int) from rfl, tmodN]
        have hq : p % 2 = m % 2 := by
          obtain ⟨g1, _⟩ := fOf (ff wide) p
          rw [hmm] at g1
          obtain ⟨u, hu⟩ : ∃ u, ff wide = u + 1 := ⟨ff wide - 1, (Nat.sub_add_cancel (Nat.le_trans (by decide) (ff_two wide).1)).symm⟩
          rw [hu, Nat.pow_succ, ← Nat.mul_assoc] at g1
          generalize fE (u + 1) p * 2 ^ u = G at g1
          rw [g1]
          omega
        rw [hq, Bool.eq_iff_iff]
        simp
        omega
      rw [hpar, shl_one _ (Nat.le_trans (ff_lt wide) (by decide))]
      -- the two ways behind
      have way1 : m ≠ 2 ^ ff wide ∨ fE (ff wide) p = 0 → Ev (fun k => short_Shortest.j1 k (p : Int) (ff wide : Int) (-(ll wide : Int)) (ii wide : Int) (S (exD (2 * m - 1) (e - 1)).1) (exD (2 * m - 1) (e - 1)).2 (S (exD (2 * m + 1) (e - 1)).1) (exD (2 * m + 1) (e - 1)).2 (decide (p % 2 = 0))) (S (shortD wide p).1, (shortD wide p).2, 0) := fun h =>
        j1_ev (hsp _ (exD_form _ _) (by omega) (fun n x hx => hlo1 h n x hx)) hp0 hlt
      by_cases c3 : m = 2 ^ ff wide
      · refine Ev.congr (fun k => if_pos (by rw [c3])) ?_
        by_cases c4 : fE (ff wide) p = 0
        · rw [show decide (e > -(ll wide : Int)) = false from decide_eq_false (by omega)]
          refine Ev.step (fun k => by simp only [short_Shortest.j0]; rfl) ?_
          exact Ev.congr (fun k => if_neg (by decide)) (way1 (.inr c4))
        · rw [show decide (e > -(ll wide : Int)) = true from decide_eq_true (by omega)]
          refine Ev.step (fun k => by simp only [short_Shortest.j0]; rfl) ?_
          refine Ev.congr (fun k => if_pos (by simp)) ?_
          rw [e4, w2]
          refine Ev.bind x4 ?_
          exact j1_ev (hsp _ (exD_form _ _) (by omega) (fun n x hx => hlo2 c3 c4 n x hx)) hp0 hlt
      · refine Ev.congr (fun k => if_neg (fun h => c3 (Int.ofNat.inj h))) ?_
        refine Ev.step (fun k => by simp only [short_Shortest.j0]; rfl) ?_
        exact Ev.congr (fun k => if_neg (by decide)) (way1 (.inl c3))
end Go.Proofs.YtmeapdchnnpceaaDoor.Pure
end
section
namespace Go.Proofs.YtmeapdchnnpceaaDoor.Pure
open Go.RowKit Go.Proofs.YtmeapdchnnpceaaDoorW.PrintWords Go.Proofs.YtmeapdchnnpceaaDoor.Fn
set_option linter.unusedVariables false
set_option linter.unusedSimpArgs false
theorem dX_decOf (wide : Bool) (n : Nat) {e : Int} (he : -(vv : Int) ≤ e) : dX wide (val (decOf n e).1) ((decOf n e).2 - (decOf n e).1.length) = dX wide n e := by
  by_cases h : n = 0
  · subst h
    rw [decOf_zero]
    unfold dX
    rw [val_nil, Nat.zero_mul, Nat.zero_mul, Nat.zero_mul, Nat.zero_mul]
  · have h1 := sv_decOf n e
    have h2 := low_decOf h e
    unfold sv at h1
    generalize (decOf n e).2 - ((decOf n e).1.length : Int) = x at *
    obtain ⟨j, rfl⟩ : ∃ j : Nat, x = e + j := ⟨(x - e).toNat, by omega⟩
    have e1 : (e + (j : Int) - e).toNat = j := by omega
    have e2 : (e + (j : Int) + (vv : Int)).toNat = j + (e + (vv : Int)).toNat := by omega
    rw [e1] at h1
    unfold dX
    rw [e2, Nat.pow_add, ← Nat.mul_assoc, h1]
theorem rdS_dec (wide : Bool) {n k : Nat} {e : Int} (h : n < 10 ^ k) (hk : k ≤ 1400) (he : -3000 ≤ e) (h2 : e + k ≤ 3000) : rdS wide (S (decOf n e).1) (decOf n e).2 = ((rdX wide (dX wide n e) : Int), 0) := by
  have hb := dec_bound h hk he h2
  have hv := vv_eq
  unfold rdS
  rw [normS_ok (inForm_decOf n e) hb.1 hb.2, if_pos rfl]
  simp only [L_S]
  rw [dX_decOf wide n (by omega)]
theorem rdS_five (wide : Bool) {l : List UInt8} {q : Int} (hf : InForm l q) (h5 : l.length ≤ 2000 ∧ -5000 ≤ q ∧ q ≤ 5000) : rdS wide (S l) q = ((rdX wide (dX wide (val l) (q - l.length)) : Int), 0) := by
  unfold rdS
  rw [normS_ok hf h5.1 h5.2, if_pos rfl]
  simp only [L_S]
theorem cand {wide : Bool} {p : Nat} {v : List UInt8 × Int} (hv : Val wide p v) {n : Nat} (hn : n < v.1.length) :
    cU v n < 10 ^ n ∧ cU v n + 1 < 10 ^ (n + 1) ∧ n ≤ 1400 ∧ n + 1 ≤ 1400 ∧ -3000 ≤ cE v n ∧ cE v n + (n : Int) ≤ 3000 ∧ cE v n + ((n + 1 : Nat) : Int) ≤ 3000 := by
  have hl := hv.len
  have hlo := hv.lo
  have hhi := hv.hi
  have hu := cU_lt hv n hn
  refine ⟨hu, ?_, by omega, by omega, by unfold cE; omega, by unfold cE; omega, by unfold cE; omega⟩
  rw [Nat.pow_succ]
  have : 1 ≤ 10 ^ n := Nat.pow_pos (by omega)
  omega
theorem shortGo_step (wide : Bool) (p : Nat) (v : List UInt8 × Int) (d n : Nat) : shortGo wide p v (d + 1) n = (bestD wide p v n).getD (shortGo wide p v d (n + 1)) := by
  conv => lhs; unfold shortGo
  cases bestD wide p v n <;> rfl
end Go.Proofs.YtmeapdchnnpceaaDoor.Pure
end
section
namespace Go.Proofs.YtmeapdchnnpceaaDoor.Fn
open Go.RowKit Go.Proofs.YtmeapdchnnpceaaDoorW.PrintWords Go.Proofs.YtmeapdchnnpceaaDoorW.PrintLast Go.Proofs.YtmeapdchnnpceaaDoorW.PrintMore
attribute [local go_sem] min2_int min_two
set_option linter.unusedVariables false
set_option linter.unusedSimpArgs false
attribute [local go_sem high] eqA28
def platenlaw05_lives.f (k : Nat)  : Option (Bool) := (short_Read.f k (⟨#[49]⟩ : ByteArray) 0 64).bind fun bt302 => ((short_Shortest.f k 4591870180066957722 64).bind fun bt304 => ((short_Parts.f 4609434218613702656 64).bind fun bt308 => (if bt302.2 = 0 then (if bt304.2.2 = 0 then (if bt302.1 = 4591870180066957722 then (if (bt304.1.toList == ([49] : List UInt8) && (bt304.2.1 == 0)) = true then (if bt308.2.1 = 6755399441055744 then (if bt308.2.2.1 = (-52) then (some (bt308.2.2.2 == 0)) else (some false)) else (some false)) else (some false)) else (some false)) else (some false)) else (some false))))
set_option maxHeartbeats 8000000 in
set_option maxRecDepth 100000 in
theorem platenlaw05_lives.calls (k : Nat)  (r : Bool) (w : World) (h : platenlaw05_lives.f k  = some r) :
  Calls Tryd.prog 15 #[] w fun e w' => e = .returned (.bool r) ∧ Below w.heap.size w w' := by
 have hu28 := Tryd.underlying28
 have HB := Aside0.mk (Below.refl w.heap.size w)
 have H : ((short_Read.f k (⟨#[49]⟩ : ByteArray) 0 64).bind fun bt302 => ((short_Shortest.f k 4591870180066957722 64).bind fun bt304 => ((short_Parts.f 4609434218613702656 64).bind fun bt308 => (if bt302.2 = 0 then (if bt304.2.2 = 0 then (if bt302.1 = 4591870180066957722 then (if (bt304.1.toList == ([49] : List UInt8) && (bt304.2.1 == 0)) = true then (if bt308.2.1 = 6755399441055744 then (if bt308.2.2.1 = (-52) then (some (bt308.2.2.2 == 0)) else (some false)) else (some false)) else (some false)) else (some false)) else (some false)) else (some false))))) = some r := h
 clear h
 replace H := bs H
 obtain ⟨⟨t302, t303⟩, A1, H⟩ := H
 dsimp only at H
 replace H := bs H
 obtain ⟨⟨t304, t305, t306⟩, A2, H⟩ := H
 dsimp only at H
 replace H := bs H
 obtain ⟨⟨t308, t309, t310, t311⟩, A3, H⟩ := H
 dsimp only at H
 by_cases c4 : t303 = 0
 ·rw [if_pos c4] at H
  obtain ⟨c4b0, c4b1⟩ := eT c4
  clear c4
  by_cases c5 : t306 = 0
  ·rw [if_pos c5] at H
   obtain ⟨c5b0, c5b1⟩ := eT c5
   clear c5
   by_cases c6 : t302 = 4591870180066957722
   ·rw [if_pos c6] at H
    obtain ⟨c6b0, c6b1⟩ := eT c6
    clear c6
    by_cases c7 : (t304.toList == ([49] : List UInt8) && (t305 == 0)) = true
    ·rw [if_pos c7] at H
     have c7b0 : (t304.toList == ([49] : List UInt8) && (t305 == 0)) = true := c7
     (try (have c7b1 : decide (t304.toList = ([49] : List UInt8) && (t305 == 0)) = true := by simpa using c7))
     (try (have c7b2 : (t304.toList == ([49] : List UInt8) && (t305 == 0)) = true := by simpa using c7))
     clear c7
     by_cases c8 : t309 = 6755399441055744
     ·rw [if_pos c8] at H
      obtain ⟨c8b0, c8b1⟩ := eT c8
      clear c8
      by_cases c9 : t310 = (-52)
      ·rw [if_pos c9] at H
       obtain ⟨c9b0, c9b1⟩ := eT c9
       clear c9
       obtain rfl := Option.some.inj H
       go_enter Tryd.func15, Tryd.ntmps15
       go_wp2_with (first | ((with_reducible refine gate_callee (f := 16) rfl ?_); refine goesL_ (some 11) rfl rfl Tryd.func16 (by kernel_rfl) rfl #[.agg #[.string (⟨#[49]⟩ : ByteArray), .int .i64 0], .int .i64 64] rfl lz ?_; (with_reducible refine (short_Read.calls k (⟨#[49]⟩ : ByteArray) 0 64 t302 t303 _ A1.out).mono ?_); rintro e w10 ⟨rfl, hb⟩; refine ⟨_, rfl, ?_⟩; replace HB := bN bz hb; (try clear hb); (try clear hb2); (try clear hk); (try clear hi)) | ((with_reducible refine gate_callee (f := 18) rfl ?_); refine goesL_ (some 15) rfl rfl Tryd.func18 (by kernel_rfl) rfl #[.int .u64 4591870180066957722, .int .i64 64] rfl lz ?_; (with_reducible refine (short_Shortest.calls k 4591870180066957722 64 t304 t305 t306 _ A2.out).mono ?_); rintro e w11 ⟨rfl, hb⟩; refine ⟨_, rfl, ?_⟩; replace HB := bN bz hb; (try clear hb); (try clear hb2); (try clear hk); (try clear hi)) | ((with_reducible refine gate_dst (N := 3) rfl ?_); refine box_event rfl (N := 3) rfl (cs := #[.string (⟨#[]⟩ : ByteArray), .int .i64 0]) (t := 28) gz ?_; intro gb307 hg w12 hbox hb; have GW307 := gN bz hg; have GE307 := gN bz hg; have BK307 := Aside0.mk hbox; replace HB := bN bz hb; clear hb hbox hg; obtain ⟨hcz13_0, hcz13_1, hfz13_0, hfz13_1⟩ := cz2 (W := w12) BK307) | ((with_reducible refine gate_callee (f := 13) rfl ?_); refine goesL_ (some 19) rfl rfl Tryd.func13 (by kernel_rfl) rfl #[.int .u64 4609434218613702656, .int .i64 64] rfl lz ?_; (with_reducible refine (short_Parts.calls 4609434218613702656 64 t308 t309 t310 t311 _ A3.out).mono ?_); rintro e w14 ⟨rfl, hb⟩; refine ⟨_, rfl, ?_⟩; replace BK307 := kN (g := gb307) (cs := #[.string t304, .int .i64 t305]) hb bk; replace HB := bN bz hb; (try clear hb); (try clear hb2); (try clear hk); (try clear hi); obtain ⟨hcz15_0, hcz15_1, hfz15_0, hfz15_1⟩ := cz2 (W := w14) BK307))
       go_ret
       exact ⟨ez, bz⟩
      ·rw [if_neg c9] at H
       obtain ⟨c9b0, c9b1⟩ := eF c9
       obtain rfl := Option.some.inj H
       go_enter Tryd.func15, Tryd.ntmps15
       go_wp2_with (first | ((with_reducible refine gate_callee (f := 16) rfl ?_); refine goesL_ (some 11) rfl rfl Tryd.func16 (by kernel_rfl) rfl #[.agg #[.string (⟨#[49]⟩ : ByteArray), .int .i64 0], .int .i64 64] rfl lz ?_; (with_reducible refine (short_Read.calls k (⟨#[49]⟩ : ByteArray) 0 64 t302 t303 _ A1.out).mono ?_); rintro e w16 ⟨rfl, hb⟩; refine ⟨_, rfl, ?_⟩; replace HB := bN bz hb; (try clear hb); (try clear hb2); (try clear hk); (try clear hi)) | ((with_reducible refine gate_callee (f := 18) rfl ?_); refine goesL_ (some 15) rfl rfl Tryd.func18 (by kernel_rfl) rfl #[.int .u64 4591870180066957722, .int .i64 64] rfl lz ?_; (with_reducible refine (short_Shortest.calls k 4591870180066957722 64 t304 t305 t306 _ A2.out).mono ?_); rintro e w17 ⟨rfl, hb⟩; refine ⟨_, rfl, ?_⟩; replace HB := bN bz hb; (try clear hb); (try clear hb2); (try clear hk); (try clear hi)) | ((with_reducible refine gate_dst (N := 3) rfl ?_); refine box_event rfl (N := 3) rfl (cs := #[.string (⟨#[]⟩ : ByteArray), .int .i64 0]) (t := 28) gz ?_; intro gb307 hg w18 hbox hb; have GW307 := gN bz hg; have GE307 := gN bz hg; have BK307 := Aside0.mk hbox; replace HB := bN bz hb; clear hb hbox hg; obtain ⟨hcz19_0, hcz19_1, hfz19_0, hfz19_1⟩ := cz2 (W := w18) BK307) | ((with_reducible refine gate_callee (f := 13) rfl ?_); refine goesL_ (some 19) rfl rfl Tryd.func13 (by kernel_rfl) rfl #[.int .u64 4609434218613702656, .int .i64 64] rfl lz ?_; (with_reducible refine (short_Parts.calls 4609434218613702656 64 t308 t309 t310 t311 _ A3.out).mono ?_); rintro e w20 ⟨rfl, hb⟩; refine ⟨_, rfl, ?_⟩; replace BK307 := kN (g := gb307) (cs := #[.string t304, .int .i64 t305]) hb bk; replace HB := bN bz hb; (try clear hb); (try clear hb2); (try clear hk); (try clear hi); obtain ⟨hcz21_0, hcz21_1, hfz21_0, hfz21_1⟩ := cz2 (W := w20) BK307))
       go_ret
       exact ⟨ez, bz⟩
     ·rw [if_neg c8] at H
      obtain ⟨c8b0, c8b1⟩ := eF c8
      obtain rfl := Option.some.inj H
      go_enter Tryd.func15, Tryd.ntmps15
      go_wp2_with (first | ((with_reducible refine gate_callee (f := 16) rfl ?_); refine goesL_ (some 11) rfl rfl Tryd.func16 (by kernel_rfl) rfl #[.agg #[.string (⟨#[49]⟩ : ByteArray), .int .i64 0], .int .i64 64] rfl lz ?_; (with_reducible refine (short_Read.calls k (⟨#[49]⟩ : ByteArray) 0 64 t302 t303 _ A1.out).mono ?_); rintro e w22 ⟨rfl, hb⟩; refine ⟨_, rfl, ?_⟩; replace HB := bN bz hb; (try clear hb); (try clear hb2); (try clear hk); (try clear hi)) | ((with_reducible refine gate_callee (f := 18) rfl ?_); refine goesL_ (some 15) rfl rfl Tryd.func18 (by kernel_rfl) rfl #[.int .u64 4591870180066957722, .int .i64 64] rfl lz ?_; (with_reducible refine (short_Shortest.calls k 4591870180066957722 64 t304 t305 t306 _ A2.out).mono ?_); rintro e w23 ⟨rfl, hb⟩; refine ⟨_, rfl, ?_⟩; replace HB := bN bz hb; (try clear hb); (try clear hb2); (try clear hk); (try clear hi)) | ((with_reducible refine gate_dst (N := 3) rfl ?_); refine box_event rfl (N := 3) rfl (cs := #[.string (⟨#[]⟩ : ByteArray), .int .i64 0]) (t := 28) gz ?_; intro gb307 hg w24 hbox hb; have GW307 := gN bz hg; have GE307 := gN bz hg; have BK307 := Aside0.mk hbox; replace HB := bN bz hb; clear hb hbox hg; obtain ⟨hcz25_0, hcz25_1, hfz25_0, hfz25_1⟩ := cz2 (W := w24) BK307) | ((with_reducible refine gate_callee (f := 13) rfl ?_); refine goesL_ (some 19) rfl rfl Tryd.func13 (by kernel_rfl) rfl #[.int .u64 4609434218613702656, .int .i64 64] rfl lz ?_; (with_reducible refine (short_Parts.calls 4609434218613702656 64 t308 t309 t310 t311 _ A3.out).mono ?_); rintro e w26 ⟨rfl, hb⟩; refine ⟨_, rfl, ?_⟩; replace BK307 := kN (g := gb307) (cs := #[.string t304, .int .i64 t305]) hb bk; replace HB := bN bz hb; (try clear hb); (try clear hb2); (try clear hk); (try clear hi); obtain ⟨hcz27_0, hcz27_1, hfz27_0, hfz27_1⟩ := cz2 (W := w26) BK307))
      go_ret
      exact ⟨ez, bz⟩
    ·rw [if_neg c7] at H
     have c7b0 : (t304.toList == ([49] : List UInt8) && (t305 == 0)) = false := by simpa using c7
     (try (have c7b1 : decide (t304.toList = ([49] : List UInt8) && (t305 == 0)) = false := by simpa using c7))
     (try (have c7b2 : (t304.toList == ([49] : List UInt8) && (t305 == 0)) = false := by simpa using c7))
     (try (have c7b3 : ¬ (t304.toList = ([49] : List UInt8) && (t305 == 0)) := by simpa using c7))
     clear c7
     obtain rfl := Option.some.inj H
     go_enter Tryd.func15, Tryd.ntmps15
     go_wp2_with (first | ((with_reducible refine gate_callee (f := 16) rfl ?_); refine goesL_ (some 11) rfl rfl Tryd.func16 (by kernel_rfl) rfl #[.agg #[.string (⟨#[49]⟩ : ByteArray), .int .i64 0], .int .i64 64] rfl lz ?_; (with_reducible refine (short_Read.calls k (⟨#[49]⟩ : ByteArray) 0 64 t302 t303 _ A1.out).mono ?_); rintro e w28 ⟨rfl, hb⟩; refine ⟨_, rfl, ?_⟩; replace HB := bN bz hb; (try clear hb); (try clear hb2); (try clear hk); (try clear hi)) | ((with_reducible refine gate_callee (f := 18) rfl ?_); refine goesL_ (some 15) rfl rfl Tryd.func18 (by kernel_rfl) rfl #[.int .u64 4591870180066957722, .int .i64 64] rfl lz ?_; (with_reducible refine (short_Shortest.calls k 4591870180066957722 64 t304 t305 t306 _ A2.out).mono ?_); rintro e w29 ⟨rfl, hb⟩; refine ⟨_, rfl, ?_⟩; replace HB := bN bz hb; (try clear hb); (try clear hb2); (try clear hk); (try clear hi)) | ((with_reducible refine gate_dst (N := 3) rfl ?_); refine box_event rfl (N := 3) rfl (cs := #[.string (⟨#[]⟩ : ByteArray), .int .i64 0]) (t := 28) gz ?_; intro gb307 hg w30 hbox hb; have GW307 := gN bz hg; have GE307 := gN bz hg; have BK307 := Aside0.mk hbox; replace HB := bN bz hb; clear hb hbox hg; obtain ⟨hcz31_0, hcz31_1, hfz31_0, hfz31_1⟩ := cz2 (W := w30) BK307) | ((with_reducible refine gate_callee (f := 13) rfl ?_); refine goesL_ (some 19) rfl rfl Tryd.func13 (by kernel_rfl) rfl #[.int .u64 4609434218613702656, .int .i64 64] rfl lz ?_; (with_reducible refine (short_Parts.calls 4609434218613702656 64 t308 t309 t310 t311 _ A3.out).mono ?_); rintro e w32 ⟨rfl, hb⟩; refine ⟨_, rfl, ?_⟩; replace BK307 := kN (g := gb307) (cs := #[.string t304, .int .i64 t305]) hb bk; replace HB := bN bz hb; (try clear hb); (try clear hb2); (try clear hk); (try clear hi); obtain ⟨hcz33_0, hcz33_1, hfz33_0, hfz33_1⟩ := cz2 (W := w32) BK307))
     go_ret
     exact ⟨ez, bz⟩
   ·rw [if_neg c6] at H
    obtain ⟨c6b0, c6b1⟩ := eF c6
    obtain rfl := Option.some.inj H
    go_enter Tryd.func15, Tryd.ntmps15
    go_wp2_with (first | ((with_reducible refine gate_callee (f := 16) rfl ?_); refine goesL_ (some 11) rfl rfl Tryd.func16 (by kernel_rfl) rfl #[.agg #[.string (⟨#[49]⟩ : ByteArray), .int .i64 0], .int .i64 64] rfl lz ?_; (with_reducible refine (short_Read.calls k (⟨#[49]⟩ : ByteArray) 0 64 t302 t303 _ A1.out).mono ?_); rintro e w34 ⟨rfl, hb⟩; refine ⟨_, rfl, ?_⟩; replace HB := bN bz hb; (try clear hb); (try clear hb2); (try clear hk); (try clear hi)) | ((with_reducible refine gate_callee (f := 18) rfl ?_); refine goesL_ (some 15) rfl rfl Tryd.func18 (by kernel_rfl) rfl #[.int .u64 4591870180066957722, .int .i64 64] rfl lz ?_; (with_reducible refine (short_Shortest.calls k 4591870180066957722 64 t304 t305 t306 _ A2.out).mono ?_); rintro e w35 ⟨rfl, hb⟩; refine ⟨_, rfl, ?_⟩; replace HB := bN bz hb; (try clear hb); (try clear hb2); (try clear hk); (try clear hi)) | ((with_reducible refine gate_dst (N := 3) rfl ?_); refine box_event rfl (N := 3) rfl (cs := #[.string (⟨#[]⟩ : ByteArray), .int .i64 0]) (t := 28) gz ?_; intro gb307 hg w36 hbox hb; have GW307 := gN bz hg; have GE307 := gN bz hg; have BK307 := Aside0.mk hbox; replace HB := bN bz hb; clear hb hbox hg; obtain ⟨hcz37_0, hcz37_1, hfz37_0, hfz37_1⟩ := cz2 (W := w36) BK307) | ((with_reducible refine gate_callee (f := 13) rfl ?_); refine goesL_ (some 19) rfl rfl Tryd.func13 (by kernel_rfl) rfl #[.int .u64 4609434218613702656, .int .i64 64] rfl lz ?_; (with_reducible refine (short_Parts.calls 4609434218613702656 64 t308 t309 t310 t311 _ A3.out).mono ?_); rintro e w38 ⟨rfl, hb⟩; refine ⟨_, rfl, ?_⟩; replace BK307 := kN (g := gb307) (cs := #[.string t304, .int .i64 t305]) hb bk; replace HB := bN bz hb; (try clear hb); (try clear hb2); (try clear hk); (try clear hi)))
    go_ret
    exact ⟨ez, bz⟩
  ·rw [if_neg c5] at H
   obtain ⟨c5b0, c5b1⟩ := eF c5
   obtain rfl := Option.some.inj H
   go_enter Tryd.func15, Tryd.ntmps15
   go_wp2_with (first | ((with_reducible refine gate_callee (f := 16) rfl ?_); refine goesL_ (some 11) rfl rfl Tryd.func16 (by kernel_rfl) rfl #[.agg #[.string (⟨#[49]⟩ : ByteArray), .int .i64 0], .int .i64 64] rfl lz ?_; (with_reducible refine (short_Read.calls k (⟨#[49]⟩ : ByteArray) 0 64 t302 t303 _ A1.out).mono ?_); rintro e w39 ⟨rfl, hb⟩; refine ⟨_, rfl, ?_⟩; replace HB := bN bz hb; (try clear hb); (try clear hb2); (try clear hk); (try clear hi)) | ((with_reducible refine gate_callee (f := 18) rfl ?_); refine goesL_ (some 15) rfl rfl Tryd.func18 (by kernel_rfl) rfl #[.int .u64 4591870180066957722, .int .i64 64] rfl lz ?_; (with_reducible refine (short_Shortest.calls k 4591870180066957722 64 t304 t305 t306 _ A2.out).mono ?_); rintro e w40 ⟨rfl, hb⟩; refine ⟨_, rfl, ?_⟩; replace HB := bN bz hb; (try clear hb); (try clear hb2); (try clear hk); (try clear hi)) | ((with_reducible refine gate_dst (N := 3) rfl ?_); refine box_event rfl (N := 3) rfl (cs := #[.string (⟨#[]⟩ : ByteArray), .int .i64 0]) (t := 28) gz ?_; intro gb307 hg w41 hbox hb; have GW307 := gN bz hg; have GE307 := gN bz hg; have BK307 := Aside0.mk hbox; replace HB := bN bz hb; clear hb hbox hg; obtain ⟨hcz42_0, hcz42_1, hfz42_0, hfz42_1⟩ := cz2 (W := w41) BK307) | ((with_reducible refine gate_callee (f := 13) rfl ?_); refine goesL_ (some 19) rfl rfl Tryd.func13 (by kernel_rfl) rfl #[.int .u64 4609434218613702656, .int .i64 64] rfl lz ?_; (with_reducible refine (short_Parts.calls 4609434218613702656 64 t308 t309 t310 t311 _ A3.out).mono ?_); rintro e w43 ⟨rfl, hb⟩; refine ⟨_, rfl, ?_⟩; replace BK307 := kN (g := gb307) (cs := #[.string t304, .int .i64 t305]) hb bk; replace HB := bN bz hb; (try clear hb); (try clear hb2); (try clear hk); (try clear hi)))
   go_ret
   exact ⟨ez, bz⟩
 ·rw [if_neg c4] at H
  obtain ⟨c4b0, c4b1⟩ := eF c4
  obtain rfl := Option.some.inj H
  go_enter Tryd.func15, Tryd.ntmps15
  go_wp2_with (first | ((with_reducible refine gate_callee (f := 16) rfl ?_); refine goesL_ (some 11) rfl rfl Tryd.func16 (by kernel_rfl) rfl #[.agg #[.string (⟨#[49]⟩ : ByteArray), .int .i64 0], .int .i64 64] rfl lz ?_; (with_reducible refine (short_Read.calls k (⟨#[49]⟩ : ByteArray) 0 64 t302 t303 _ A1.out).mono ?_); rintro e w44 ⟨rfl, hb⟩; refine ⟨_, rfl, ?_⟩; replace HB := bN bz hb; (try clear hb); (try clear hb2); (try clear hk); (try clear hi)) | ((with_reducible refine gate_callee (f := 18) rfl ?_); refine goesL_ (some 15) rfl rfl Tryd.func18 (by kernel_rfl) rfl #[.int .u64 4591870180066957722, .int .i64 64] rfl lz ?_; (with_reducible refine (short_Shortest.calls k 4591870180066957722 64 t304 t305 t306 _ A2.out).mono ?_); rintro e w45 ⟨rfl, hb⟩; refine ⟨_, rfl, ?_⟩; replace HB := bN bz hb; (try clear hb); (try clear hb2); (try clear hk); (try clear hi)) | ((with_reducible refine gate_dst (N := 3) rfl ?_); refine box_event rfl (N := 3) rfl (cs := #[.string (⟨#[]⟩ : ByteArray), .int .i64 0]) (t := 28) gz ?_; intro gb307 hg w46 hbox hb; have GW307 := gN bz hg; have GE307 := gN bz hg; have BK307 := Aside0.mk hbox; replace HB := bN bz hb; clear hb hbox hg; obtain ⟨hcz47_0, hcz47_1, hfz47_0, hfz47_1⟩ := cz2 (W := w46) BK307) | ((with_reducible refine gate_callee (f := 13) rfl ?_); refine goesL_ (some 19) rfl rfl Tryd.func13 (by kernel_rfl) rfl #[.int .u64 4609434218613702656, .int .i64 64] rfl lz ?_; (with_reducible refine (short_Parts.calls 4609434218613702656 64 t308 t309 t310 t311 _ A3.out).mono ?_); rintro e w48 ⟨rfl, hb⟩; refine ⟨_, rfl, ?_⟩; replace BK307 := kN (g := gb307) (cs := #[.string t304, .int .i64 t305]) hb bk; replace HB := bN bz hb; (try clear hb); (try clear hb2); (try clear hk); (try clear hi)))
  go_ret
  exact ⟨ez, bz⟩
end Go.Proofs.YtmeapdchnnpceaaDoor.Fn
end
section
namespace Go.Proofs.YtmeapdchnnpceaaDoor.Pure
open Go.RowKit Go.Proofs.YtmeapdchnnpceaaDoorW.PrintWords Go.Proofs.YtmeapdchnnpceaaDoor.Fn
set_option linter.unusedVariables false
set_option linter.unusedSimpArgs false
theorem tenth_W : ∃ p, p + 1 = 4591870180066957722 ∧ p < 9218868437227405312 ∧ fW 52 p * 20 ≤ 2 ^ 1075 ∧ 2 ^ 1075 < fW 52 (p + 1) * 20 ∧ (fW 52 p + fW 52 (p + 1)) * 10 < 2 ^ 1075 := ⟨4591870180066957721, by decide +kernel⟩
theorem tenth_X (wide : Bool) : dX wide 1 (-1) * 10 = CC * 2 ^ uu wide := by
  have hv := vv_eq
  obtain ⟨u, hu⟩ : ∃ u, vv = u + 1 := ⟨vv - 1, by omega⟩
  unfold dX CC
  rw [hu, show (-1 + ((u + 1 : Nat) : Int)).toNat = u by omega, Nat.pow_succ, Nat.one_mul]
  rw [Nat.mul_assoc, Nat.mul_comm (2 ^ uu wide), ← Nat.mul_assoc]
theorem times10 {a X C L : Nat} (hX : X * 10 = C * L) (hC : 0 < C) : (a * (2 * C) ≤ X ↔ a * 20 ≤ L) ∧ (X < a * (2 * C) ↔ L < a * 20) ∧ (a * C < X ↔ a * 10 < L) := by
  have e1 : a * (2 * C) * 10 = C * (a * 20) := by
    rw [show (20 : Nat) = 2 * 10 from rfl]
    simp only [Nat.mul_assoc, Nat.mul_comm, Nat.mul_left_comm]
  have e2 : a * C * 10 = C * (a * 10) := by simp only [Nat.mul_assoc, Nat.mul_comm, Nat.mul_left_comm]
  refine ⟨?_, ?_, ?_⟩
  · rw [← Nat.mul_le_mul_right_iff (show 0 < 10 by decide), e1, hX, Nat.mul_le_mul_left_iff hC]
  · rw [← Nat.mul_lt_mul_right (show 0 < 10 by decide), e1, hX, Nat.mul_lt_mul_left hC]
  · rw [← Nat.mul_lt_mul_right (show 0 < 10 by decide), e2, hX, Nat.mul_lt_mul_left hC]
theorem tenth_read : rdX true (dX true 1 (-1)) = 4591870180066957722 := by
  obtain ⟨p, hp, hi, w1, w2, w3⟩ := tenth_W
  have hX := tenth_X true
  have hu : uu true = 1075 := rfl
  have hf : ff true = 52 := rfl
  have hii : ii true = 9218868437227405312 := rfl
  obtain ⟨L, hL⟩ : ∃ L, 2 ^ 1075 = L := ⟨_, rfl⟩
  rw [hu, hL] at hX
  rw [hL] at w1 w2 w3
  have hfl : fFloor (ff true) (ii true) (dX true 1 (-1)) (2 * CC) p := by
    rw [hf, hii]
    exact ⟨Nat.le_of_lt hi, (times10 hX CC_pos).1.2 w1, fun _ => (times10 hX CC_pos).2.1.2 w2⟩
  rw [rd_at true hfl, if_neg (by omega), hf, if_pos (.inl ((times10 hX CC_pos).2.2.2 w3))]
  exact hp
def tenthL : List UInt8 := [49,48,48,48,48,48,48,48,48,48,48,48,48,48,48,48,48,53,53,53,49,49,49,53,49,50,51,49,50,53,55,56,50,55,48,50,49,49,56,49,53,56,51,52,48,52,53,52,49,48,49,53,54,50,53]
theorem tenth_v : exV true 4591870180066957722 = (tenthL, 0) := by decide +kernel
theorem tenth_short : shortD true 4591870180066957722 = ([49], 0) := by
  unfold shortD
  rw [tenth_v]
  have hl : tenthL.length = 54 + 1 := by decide
  show shortGo true _ (tenthL, 0) tenthL.length 1 = _
  have hn : nearU (tenthL, 0) 1 = 1 := by decide +kernel
  have hE : cE (tenthL, 0) 1 = -1 := by unfold cE; rfl
  have hb : bestD true 4591870180066957722 (tenthL, 0) 1 = some ([49], 0) := by
    unfold bestD
    rw [if_neg (by rw [hl]; decide), hn, hE, if_pos (show isP true 4591870180066957722 1 (-1) from tenth_read)]
    rfl
  rw [hl, shortGo_step, hb]
  rfl
theorem short_tenth : shortS true 4591870180066957722 = (S [49], 0, 0) := by
  have hb : bareN true 4591870180066957722 = 4591870180066957722 := by decide
  unfold shortS
  rw [hb, if_neg (by decide), if_neg (by decide), tenth_short]
theorem read_tenth : rdS true (S [49]) 0 = (4591870180066957722, 0) := by
  have h1 : InForm ([49] : List UInt8) 0 := ⟨allD_one, fun c t h => by
    injection h with h1 h2
    rw [← h1]; decide, rfl, fun h => by cases h⟩
  rw [rdS_five true h1 (by decide)]
  have : dX true (val [49]) (0 - (([49] : List UInt8).length : Int)) = dX true 1 (-1) := by rw [val_one]; rfl
  rw [this, tenth_read]
  rfl
theorem parts_ex : partsS true 4609434218613702656 = (false, 6755399441055744, -52, 0) := by decide +kernel
theorem lives5 : Ev (fun k => platenlaw05_lives.f k) true := by
  have h1 := read_eq true (S [49]) 0
  rw [read_tenth] at h1
  have h2 := shortest_eq true 4591870180066957722 (by decide)
  rw [short_tenth] at h2
  have h3 := parts_eq true 4609434218613702656 (by decide)
  rw [parts_ex] at h3
  unfold platenlaw05_lives.f
  refine Ev.bind (g := fun k => short_Read.f k (⟨#[49]⟩ : ByteArray) 0 64) h1 ?_
  refine Ev.bind (g := fun k => short_Shortest.f k 4591870180066957722 64) h2 ?_
  refine Ev.congr (fun k => ?_) (Ev.now _)
  rw [show short_Parts.f 4609434218613702656 64 = some (false, 6755399441055744, -52, 0) from h3]
  simp [toList_L, L_S]
theorem livesEnd : Ev (fun k => (platenlaw05_lives.f k).bind fun t => some t) true := Ev.bind lives5 (Ev.now _)
theorem wf_u64 {a : Int} (h : (Lit.int .u64 a).wf = true) : ∃ n : Nat, a = n ∧ n < 18446744073709551616 := by
  have h2 : 0 ≤ a ∧ a < 18446744073709551616 := by
    simp [Lit.wf, IntKind.min, IntKind.max, IntKind.bits, IntKind.signed] at h
    omega
  exact ⟨a.toNat, by omega, by omega⟩
end Go.Proofs.YtmeapdchnnpceaaDoor.Pure
end
section
namespace Go.Proofs.YtmeapdchnnpceaaDoor.Pure
open Go.RowKit Go.Proofs.YtmeapdchnnpceaaDoorW.PrintWords Go.Proofs.YtmeapdchnnpceaaDoor.Fn
set_option linter.unusedVariables false
set_option linter.unusedSimpArgs false
theorem sized_law (wide : Bool) : platenlaw05_sized.f wide = some (szB wide) := by cases wide <;> rfl
theorem finite_eq (wide : Bool) (a : Nat) (ha : a < 18446744073709551616) : ∃ p : Nat, platenlaw05_finite.f (a : Int) (szB wide) = some (p : Int) ∧ p < ii wide := by
  cases wide
  · have hm := and_mask 31 a (by omega) ha
    have e : ((2 ^ 31 - 1 : Nat) : Int) = 2147483647 := rfl
    rw [e] at hm
    have hb : a % 2 ^ 31 < 2147483648 := Nat.mod_lt _ (by decide)
    unfold platenlaw05_finite.f szB ii
    simp only [Bool.false_eq_true, if_false, if_true]
    rw [hm]
    generalize a % 2 ^ 31 = q at *
    by_cases c : (q : Int) ≥ 2139095040
    · refine ⟨q - 2139095040, ?_, by omega⟩
      rw [if_pos c, show ((q : Int) - 2139095040) = ((q - 2139095040 : Nat) : Int) by omega, u64N _ (by omega)]
    · exact ⟨q, by rw [if_neg c], by omega⟩
  · have hm := and_mask 63 a (by omega) ha
    have e : ((2 ^ 63 - 1 : Nat) : Int) = 9223372036854775807 := rfl
    rw [e] at hm
    have hb : a % 2 ^ 63 < 9223372036854775808 := Nat.mod_lt _ (by decide)
    unfold platenlaw05_finite.f szB ii
    simp only [if_true]
    rw [if_neg (by decide), hm]
    generalize a % 2 ^ 63 = q at *
    by_cases c : (q : Int) ≥ 9218868437227405312
    · refine ⟨q - 9218868437227405312, ?_, by omega⟩
      rw [if_pos c, show ((q : Int) - 9218868437227405312) = ((q - 9218868437227405312 : Nat) : Int) by omega, u64N _ (by omega)]
    · exact ⟨q, by rw [if_neg c], by omega⟩
theorem bare_fin (wide : Bool) {p : Nat} (hp : p < ii wide) : bareN wide p = p := by
  have := (ii_lt wide).2.1
  exact Nat.mod_eq_of_lt (by omega)
theorem exV_X (wide : Bool) {p : Nat} (hp : p < ii wide) : dX wide (val (exV wide p).1) ((exV wide p).2 - (exV wide p).1.length) = fW (ff wide) p * (2 * CC) := by
  have hv := exV_val wide hp
  have h1 := hv.len
  have h2 := hv.lo
  have h3 := vv_eq
  have hc := cmp_pattern wide (Nat.le_of_lt hp) (l := (exV wide p).1) (q := (exV wide p).2) hv.form (by omega)
  have h0 : cmpD (exV wide p).1 (exV wide p).2 (exV wide p).1 (exV wide p).2 = 0 := by
    unfold cmpD
    exact cmpN_self _
  have hc2 : cmpD (exV wide p).1 (exV wide p).2 (exV wide p).1 (exV wide p).2 = cmpN (fW (ff wide) p * (2 * CC)) (dX wide (val (exV wide p).1) ((exV wide p).2 - (exV wide p).1.length)) := hc
  rw [h0] at hc2
  exact ((cmpN_zero _ _).1 hc2.symm).symm
theorem rd_exact (wide : Bool) {p : Nat} (hp : p < ii wide) : rdX wide (fW (ff wide) p * (2 * CC)) = p := by
  have hC := CC_pos
  have m := mid_between (fW_lt (f := ff wide) (Nat.lt_succ_self p)) hC
  simp only [Nat.succ_eq_add_one] at m
  have hfl : fFloor (ff wide) (ii wide) (fW (ff wide) p * (2 * CC)) (2 * CC) p := ⟨Nat.le_of_lt hp, Nat.le_refl _, fun _ => Nat.lt_trans m.1 m.2⟩
  rw [rd_at wide hfl, if_neg (Nat.ne_of_lt hp), if_neg]
  rintro (h | h)
  · exact Nat.lt_asymm h m.1
  · exact absurd h.1 (Nat.ne_of_lt m.1)
theorem read_exact (wide : Bool) {p : Nat} (hp : p < ii wide) : rdS wide (S (exV wide p).1) (exV wide p).2 = ((p : Int), 0) := by
  have hv := exV_val wide hp
  rw [rdS_five wide hv.form hv.five, exV_X wide hp, rd_exact wide hp]
end Go.Proofs.YtmeapdchnnpceaaDoor.Pure
end
section
namespace Go.Proofs.YtmeapdchnnpceaaDoor.Pure
open Go.RowKit Go.Proofs.YtmeapdchnnpceaaDoorW.PrintWords Go.Proofs.YtmeapdchnnpceaaDoor.Fn
set_option linter.unusedVariables false
set_option linter.unusedSimpArgs false
theorem go_spec (wide : Bool) (p : Nat) (v : List UInt8 × Int) : ∀ d n, v.1.length ≤ n + d → ∃ N, n ≤ N ∧ bestD wide p v N = some (shortGo wide p v d n) ∧ ∀ j, n ≤ j → j < N → bestD wide p v j = none := by
  intro d
  induction d with
  | zero =>
    intro n h
    exact ⟨n, Nat.le_refl _, best_all wide p v h, fun j h1 h2 => absurd h1 (Nat.not_le.2 h2)⟩
  | succ d ih =>
    intro n h
    rw [shortGo_step]
    cases hb : bestD wide p v n with
    | some r => exact ⟨n, Nat.le_refl _, hb, fun j h1 h2 => absurd h1 (Nat.not_le.2 h2)⟩
    | none =>
      obtain ⟨N, h1, h2, h3⟩ := ih (n + 1) (by omega)
      refine ⟨N, by omega, h2, fun j h4 h5 => ?_⟩
      by_cases c : j = n
      · rw [c]; exact hb
      · exact h3 j (by omega) h5
theorem short_spec (wide : Bool) (p : Nat) : ∃ N, 1 ≤ N ∧ bestD wide p (exV wide p) N = some (shortD wide p) ∧ ∀ j, 1 ≤ j → j < N → bestD wide p (exV wide p) j = none :=
  go_spec wide p (exV wide p) (exV wide p).1.length 1 (Nat.le_add_left _ _)
theorem best_some {wide : Bool} {p : Nat} {v d : List UInt8 × Int} {n : Nat} (h : bestD wide p v n = some d) : (v.1.length ≤ n ∧ d = v) ∨ (n < v.1.length ∧ ∃ u, (u = cU v n ∨ u = cU v n + 1) ∧ d = decOf u (cE v n) ∧ isP wide p u (cE v n)) := by
  unfold bestD at h
  by_cases c1 : v.1.length ≤ n
  · rw [if_pos c1] at h
    exact .inl ⟨c1, (Option.some.inj h).symm⟩
  · rw [if_neg c1] at h
    refine .inr ⟨Nat.lt_of_not_le c1, ?_⟩
    by_cases c2 : isP wide p (nearU v n) (cE v n)
    · rw [if_pos c2] at h
      exact ⟨_, nearU_two v n, (Option.some.inj h).symm, c2⟩
    · rw [if_neg c2] at h
      by_cases c3 : isP wide p (cU v n) (cE v n)
      · rw [if_pos c3] at h
        exact ⟨_, .inl rfl, (Option.some.inj h).symm, c3⟩
      · rw [if_neg c3] at h
        by_cases c4 : isP wide p (cU v n + 1) (cE v n)
        · rw [if_pos c4] at h
          exact ⟨_, .inr rfl, (Option.some.inj h).symm, c4⟩
        · rw [if_neg c4] at h
          cases h
theorem best_none {wide : Bool} {p : Nat} {v : List UInt8 × Int} {n : Nat} (h : bestD wide p v n = none) : n < v.1.length ∧ ¬ isP wide p (nearU v n) (cE v n) ∧ ¬ isP wide p (cU v n) (cE v n) ∧ ¬ isP wide p (cU v n + 1) (cE v n) := by
  unfold bestD at h
  by_cases c1 : v.1.length ≤ n
  · rw [if_pos c1] at h; cases h
  · rw [if_neg c1] at h
    refine ⟨Nat.lt_of_not_le c1, ?_⟩
    by_cases c2 : isP wide p (nearU v n) (cE v n)
    · rw [if_pos c2] at h; cases h
    · rw [if_neg c2] at h
      by_cases c3 : isP wide p (cU v n) (cE v n)
      · rw [if_pos c3] at h; cases h
      · rw [if_neg c3] at h
        by_cases c4 : isP wide p (cU v n + 1) (cE v n)
        · rw [if_pos c4] at h; cases h
        · exact ⟨c2, c3, c4⟩
theorem dec_len {u n : Nat} {e : Int} (h : u ≤ 10 ^ n) (hn : 1 ≤ n) : (decOf u e).1.length ≤ n := by
  by_cases c : u < 10 ^ n
  · exact (decOf_bound c e).1
  · have e1 : u = 1 * 10 ^ n := by omega
    have h2 := decOf_scale 1 n (e + n)
    rw [Int.add_sub_cancel] at h2
    rw [e1, h2]
    exact Nat.le_trans (decOf_bound (n := 1) (m := 1) (by decide) (e + n)).1 hn
theorem best_len {wide : Bool} {p : Nat} {v d : List UInt8 × Int} (hv : Val wide p v) {n : Nat} (hn : 1 ≤ n) (h : bestD wide p v n = some d) : d.1.length ≤ n := by
  rcases best_some h with ⟨h1, rfl⟩ | ⟨h1, u, h2, rfl, _⟩
  · exact h1
  · have := (cand hv h1).1
    exact dec_len (by rcases h2 with h2 | h2 <;> omega) hn
theorem best_read {wide : Bool} {p : Nat} {d : List UInt8 × Int} (hp : p < ii wide) {n : Nat} (h : bestD wide p (exV wide p) n = some d) : rdS wide (S d.1) d.2 = ((p : Int), 0) := by
  have hv := exV_val wide hp
  rcases best_some h with ⟨h1, rfl⟩ | ⟨h1, u, h2, rfl, h3⟩
  · exact read_exact wide hp
  · obtain ⟨g1, g2, g3, g4, g5, g6, g7⟩ := cand hv h1
    have hu : u < 10 ^ (n + 1) := by
      have : 10 ^ n ≤ 10 ^ (n + 1) := Nat.pow_le_pow_right (by decide) (Nat.le_succ n)
      rcases h2 with h2 | h2 <;> omega
    rw [rdS_dec wide hu g4 g5 g7]
    rw [show rdX wide (dX wide u (cE (exV wide p) n)) = p from h3]
theorem near_num {l : List UInt8} {q : Int} (hall : AllD l) (h0 : Head0 l) (hq : -1200 ≤ q) (hL : l.length ≤ 1300) (wide : Bool) {n : Nat} (hn : n < l.length) (h1 : 1 ≤ n) :
    ∃ U, 2 * dX wide (val l) (q - l.length) ≤ 2 * dX wide (nearU (l, q) n) (cE (l, q) n) + U ∧ 2 * dX wide (nearU (l, q) n) (cE (l, q) n) ≤ 2 * dX wide (val l) (q - l.length) + U ∧ U * 10 ^ (n - 1) ≤ dX wide (val l) (q - l.length) := by
  have hvv := vv_eq
  have hcut := sv_cut (a := l) (Nat.le_of_lt hn)
  have hge := val_ge hall h0 (by intro e; rw [e] at hn; exact absurd hn (Nat.not_lt_zero _))
  obtain ⟨j, hj⟩ : ∃ j : Nat, q - (l.length : Int) + (vv : Int) = (j : Int) := ⟨(q - (l.length : Int) + (vv : Int)).toNat, by omega⟩
  have e1 : (q - (l.length : Int) + (vv : Int)).toNat = j := by omega
  have e2 : (cE (l, q) n + (vv : Int)).toNat = (l.length - n) + j := by show (q - (n : Int) + (vv : Int)).toNat = _; omega
  have e3 : l.length - 1 = (n - 1) + (l.length - n) := by omega
  rw [e3, Nat.pow_add] at hge
  have hdn : (downP l n → 2 * val (l.drop n) ≤ 10 ^ (l.length - n)) ∧ (¬ downP l n → 10 ^ (l.length - n) ≤ 2 * val (l.drop n)) := by
    unfold downP
    constructor
    · rintro (h | h)
      · exact Nat.le_of_lt h
      · exact Nat.le_of_eq h.1
    · intro h
      exact Nat.le_of_not_lt fun h2 => h (.inl h2)
  have hY : ∀ u : Nat, dX wide u (cE (l, q) n) = u * 10 ^ (l.length - n) * (10 ^ j * 2 ^ uu wide) := fun u => by
    unfold dX
    rw [e2, Nat.pow_add]
    simp only [Nat.mul_assoc]
  have hV : dX wide (val l) (q - l.length) = val l * (10 ^ j * 2 ^ uu wide) := by
    unfold dX
    rw [e1, Nat.mul_assoc]
  rw [hY, hV, hcut]
  generalize 10 ^ j * 2 ^ uu wide = w at *
  rw [hcut] at hge
  have hcU : nearU (l, q) n = if downP l n then val (l.take n) else val (l.take n) + 1 := rfl
  rw [hcU]
  have hrT : val (l.drop n) < 10 ^ (l.length - n) := by
    have := val_lt (hall.drop n)
    rw [List.length_drop] at this
    exact this
  generalize 10 ^ (l.length - n) = T at *
  generalize val (l.drop n) = r at *
  generalize val (l.take n) = c at *
  generalize 10 ^ (n - 1) = N at *
  refine ⟨T * w, ?_, ?_, ?_⟩
  · by_cases d : downP l n
    · rw [if_pos d]
      have := Nat.mul_le_mul_right w (hdn.1 d)
      have a1 := Nat.add_mul (c * T) r w
      have a2 := Nat.mul_assoc 2 r w
      omega
    · rw [if_neg d]
      have a1 := Nat.add_mul (c * T) r w
      have a3 : (c + 1) * T * w = c * T * w + T * w := by rw [Nat.add_mul, Nat.one_mul, Nat.add_mul]
      have := Nat.mul_le_mul_right w (Nat.le_of_lt hrT)
      omega
  · by_cases d : downP l n
    · rw [if_pos d]
      have a1 := Nat.add_mul (c * T) r w
      omega
    · rw [if_neg d]
      have := Nat.mul_le_mul_right w (hdn.2 d)
      have a1 := Nat.add_mul (c * T) r w
      have a2 := Nat.mul_assoc 2 r w
      have a3 : (c + 1) * T * w = c * T * w + T * w := by rw [Nat.add_mul, Nat.one_mul, Nat.add_mul]
      omega
  · have := Nat.mul_le_mul_right w hge
    rw [Nat.mul_comm (T * w), ← Nat.mul_assoc]
    exact this
theorem span_num {V Y U G N m C lo hi : Nat} (h1 : 2 * V ≤ 2 * Y + U) (h2 : 2 * Y ≤ 2 * V + U) (h3 : U * N ≤ V) (hV : V = 2 * (m * G)) (hN : 2 * m ≤ 2 * N ∧ 0 < N) (hm : m < N) (hG : 0 < G) : U < 2 * G := by
  refine Nat.lt_of_not_le fun c => ?_
  have h4 : 2 * G * N ≤ U * N := Nat.mul_le_mul_right _ c
  have h5 : m * G < N * G := Nat.mul_lt_mul_of_pos_right hm hG
  have h6 : 2 * G * N = 2 * (N * G) := by rw [Nat.mul_assoc, Nat.mul_comm G N]
  omega
end Go.Proofs.YtmeapdchnnpceaaDoor.Pure
end
section
namespace Go.Proofs.YtmeapdchnnpceaaDoor.Fn
open Go.RowKit Go.Proofs.YtmeapdchnnpceaaDoorW.PrintWords Go.Proofs.YtmeapdchnnpceaaDoorW.PrintLast Go.Proofs.YtmeapdchnnpceaaDoorW.PrintMore
attribute [local go_sem] min2_int min_two
set_option linter.unusedVariables false
set_option linter.unusedSimpArgs false
def platenlaw05_ShortBack.f (k : Nat) (a0 : Int) (a1 : Bool) : Option (Bool) := (platenlaw05_sized.f a1).bind fun t535 => ((platenlaw05_finite.f a0 t535).bind fun t536 => ((platenlaw05_sized.f a1).bind fun t537 => ((short_Shortest.f k t536 t537).bind fun bt538 => ((short_Read.f k bt538.1 bt538.2.1 t537).bind fun bt542 => (if bt538.2.2 = 0 then (if bt542.2 = 0 then (if t536 = bt542.1 then (if (bt538.1.size : Int) ≤ 9 then ((platenlaw05_lives.f k).bind fun t544 => (some t544)) else (if a1 = true then (if (bt538.1.size : Int) ≤ 17 then ((platenlaw05_lives.f k).bind fun t545 => (some t545)) else (some false)) else (some false))) else (some false)) else (some false)) else (some false))))))
set_option maxHeartbeats 8000000 in
set_option maxRecDepth 100000 in
theorem platenlaw05_ShortBack.calls (k : Nat) (a0 : Int) (a1 : Bool) (r : Bool) (w : World) (h : platenlaw05_ShortBack.f k a0 a1 = some r) :
  Calls Tryd.prog 6 #[.int .u64 a0, .bool a1] w fun e w' => e = .returned (.bool r) ∧ Below w.heap.size w w' := by
 have hu28 := Tryd.underlying28
 have HB := Aside0.mk (Below.refl w.heap.size w)
 have H : ((platenlaw05_sized.f a1).bind fun t535 => ((platenlaw05_finite.f a0 t535).bind fun t536 => ((platenlaw05_sized.f a1).bind fun t537 => ((short_Shortest.f k t536 t537).bind fun bt538 => ((short_Read.f k bt538.1 bt538.2.1 t537).bind fun bt542 => (if bt538.2.2 = 0 then (if bt542.2 = 0 then (if t536 = bt542.1 then (if (bt538.1.size : Int) ≤ 9 then ((platenlaw05_lives.f k).bind fun t544 => (some t544)) else (if a1 = true then (if (bt538.1.size : Int) ≤ 17 then ((platenlaw05_lives.f k).bind fun t545 => (some t545)) else (some false)) else (some false))) else (some false)) else (some false)) else (some false))))))) = some r := h
 clear h
 replace H := bs H
 obtain ⟨t535, A3, H⟩ := H
 replace H := bs H
 obtain ⟨t536, A4, H⟩ := H
 replace H := bs H
 obtain ⟨t537, A5, H⟩ := H
 replace H := bs H
 obtain ⟨⟨t538, t539, t540⟩, A6, H⟩ := H
 dsimp only at H
 replace H := bs H
 obtain ⟨⟨t542, t543⟩, A7, H⟩ := H
 dsimp only at H
 by_cases c8 : t540 = 0
 ·rw [if_pos c8] at H
  obtain ⟨c8b0, c8b1⟩ := eT c8
  clear c8
  by_cases c9 : t543 = 0
  ·rw [if_pos c9] at H
   obtain ⟨c9b0, c9b1⟩ := eT c9
   clear c9
   by_cases c10 : t536 = t542
   ·rw [if_pos c10] at H
    obtain ⟨c10b0, c10b1⟩ := eT c10
    clear c10
    by_cases c11 : (t538.size : Int) ≤ 9
    ·rw [if_pos c11] at H
     have c11b0 := decide_eq_true c11
     have c11b1 : decide (t538.size ≤ 9) = true := decide_eq_true (by omega)
     clear c11
     replace H := bs H
     obtain ⟨t544, A12, H⟩ := H
     obtain rfl := Option.some.inj H
     go_enter Tryd.func6, Tryd.ntmps6
     go_wp2_with (first | ((with_reducible refine gate_callee (f := 21) rfl ?_); refine goesL_ (some 13) rfl rfl Tryd.func21 (by kernel_rfl) rfl #[.bool a1] rfl lz ?_; (with_reducible refine (platenlaw05_sized.calls a1 t535 _ A3.out).mono ?_); rintro e w' ⟨rfl, ⟨nd, rfl⟩⟩; refine ⟨_, rfl, ?_⟩) | ((with_reducible refine gate_callee (f := 20) rfl ?_); refine goesL_ (some 14) rfl rfl Tryd.func20 (by kernel_rfl) rfl #[.int .u64 a0, .int .i64 t535] rfl lz ?_; (with_reducible refine (platenlaw05_finite.calls a0 t535 t536 _ A4.out).mono ?_); rintro e w' ⟨rfl, ⟨nd, rfl⟩⟩; refine ⟨_, rfl, ?_⟩) | ((with_reducible refine gate_callee (f := 21) rfl ?_); refine goesL_ (some 16) rfl rfl Tryd.func21 (by kernel_rfl) rfl #[.bool a1] rfl lz ?_; (with_reducible refine (platenlaw05_sized.calls a1 t537 _ A5.out).mono ?_); rintro e w' ⟨rfl, ⟨nd, rfl⟩⟩; refine ⟨_, rfl, ?_⟩) | ((with_reducible refine gate_callee (f := 18) rfl ?_); refine goesL_ (some 20) rfl rfl Tryd.func18 (by kernel_rfl) rfl #[.int .u64 t536, .int .i64 t537] rfl lz ?_; (with_reducible refine (short_Shortest.calls k t536 t537 t538 t539 t540 _ A6.out).mono ?_); rintro e w13 ⟨rfl, hb⟩; refine ⟨_, rfl, ?_⟩; replace HB := bN bz hb; (try clear hb); (try clear hb2); (try clear hk); (try clear hi)) | ((with_reducible refine gate_dst (N := 7) rfl ?_); (try (refine gate_guard (by rfl) ?_; dsimp only)); refine box_event rfl (N := 7) rfl (cs := #[.string (⟨#[]⟩ : ByteArray), .int .i64 0]) (t := 28) gz ?_; intro gb541 hg w14 hbox hb; have GW541 := gN bz hg; have GE541 := gN bz hg; have BK541 := Aside0.mk hbox; replace HB := bN bz hb; clear hb hbox hg; obtain ⟨hcz15_0, hcz15_1, hfz15_0, hfz15_1⟩ := cz2 (W := w14) BK541) | ((with_reducible refine gate_callee (f := 16) rfl ?_); refine goesL_ (some 26) rfl rfl Tryd.func16 (by kernel_rfl) rfl #[.agg #[.string t538, .int .i64 t539], .int .i64 t537] rfl lz ?_; (with_reducible refine (short_Read.calls k t538 t539 t537 t542 t543 _ A7.out).mono ?_); rintro e w16 ⟨rfl, hb⟩; refine ⟨_, rfl, ?_⟩; replace BK541 := kN (g := gb541) (cs := #[.string t538, .int .i64 t539]) hb bk; replace HB := bN bz hb; (try clear hb); (try clear hb2); (try clear hk); (try clear hi); obtain ⟨hcz17_0, hcz17_1, hfz17_0, hfz17_1⟩ := cz2 (W := w16) BK541) | (go_at_call 15; (with_reducible refine (platenlaw05_lives.calls k  t544 _ A12.out).mono ?_); rintro e w18 ⟨rfl, hb⟩; replace BK541 := kN (g := gb541) (cs := #[.string t538, .int .i64 t539]) hb bk; replace HB := bN bz hb; (try clear hb); (try clear hb2); (try clear hk); (try clear hi)))
     go_ret
     exact ⟨ez, bz⟩
    ·rw [if_neg c11] at H
     have c11b0 := decide_eq_false c11
     have c11b1 : decide (t538.size ≤ 9) = false := decide_eq_false (by omega)
     clear c11
     by_cases c19 : a1 = true
     ·subst c19
      replace H := hT H
      by_cases c20 : (t538.size : Int) ≤ 17
      ·rw [if_pos c20] at H
       have c20b0 := decide_eq_true c20
       have c20b1 : decide (t538.size ≤ 17) = true := decide_eq_true (by omega)
       clear c20
       replace H := bs H
       obtain ⟨t545, A21, H⟩ := H
       obtain rfl := Option.some.inj H
       go_enter Tryd.func6, Tryd.ntmps6
       go_wp2_with (first | ((with_reducible refine gate_callee (f := 21) rfl ?_); refine goesL_ (some 13) rfl rfl Tryd.func21 (by kernel_rfl) rfl #[.bool true] rfl lz ?_; (with_reducible refine (platenlaw05_sized.calls true t535 _ A3.out).mono ?_); rintro e w' ⟨rfl, ⟨nd, rfl⟩⟩; refine ⟨_, rfl, ?_⟩) | ((with_reducible refine gate_callee (f := 20) rfl ?_); refine goesL_ (some 14) rfl rfl Tryd.func20 (by kernel_rfl) rfl #[.int .u64 a0, .int .i64 t535] rfl lz ?_; (with_reducible refine (platenlaw05_finite.calls a0 t535 t536 _ A4.out).mono ?_); rintro e w' ⟨rfl, ⟨nd, rfl⟩⟩; refine ⟨_, rfl, ?_⟩) | ((with_reducible refine gate_callee (f := 21) rfl ?_); refine goesL_ (some 16) rfl rfl Tryd.func21 (by kernel_rfl) rfl #[.bool true] rfl lz ?_; (with_reducible refine (platenlaw05_sized.calls true t537 _ A5.out).mono ?_); rintro e w' ⟨rfl, ⟨nd, rfl⟩⟩; refine ⟨_, rfl, ?_⟩) | ((with_reducible refine gate_callee (f := 18) rfl ?_); refine goesL_ (some 20) rfl rfl Tryd.func18 (by kernel_rfl) rfl #[.int .u64 t536, .int .i64 t537] rfl lz ?_; (with_reducible refine (short_Shortest.calls k t536 t537 t538 t539 t540 _ A6.out).mono ?_); rintro e w22 ⟨rfl, hb⟩; refine ⟨_, rfl, ?_⟩; replace HB := bN bz hb; (try clear hb); (try clear hb2); (try clear hk); (try clear hi)) | ((with_reducible refine gate_dst (N := 7) rfl ?_); (try (refine gate_guard (by rfl) ?_; dsimp only)); refine box_event rfl (N := 7) rfl (cs := #[.string (⟨#[]⟩ : ByteArray), .int .i64 0]) (t := 28) gz ?_; intro gb541 hg w23 hbox hb; have GW541 := gN bz hg; have GE541 := gN bz hg; have BK541 := Aside0.mk hbox; replace HB := bN bz hb; clear hb hbox hg; obtain ⟨hcz24_0, hcz24_1, hfz24_0, hfz24_1⟩ := cz2 (W := w23) BK541) | ((with_reducible refine gate_callee (f := 16) rfl ?_); refine goesL_ (some 26) rfl rfl Tryd.func16 (by kernel_rfl) rfl #[.agg #[.string t538, .int .i64 t539], .int .i64 t537] rfl lz ?_; (with_reducible refine (short_Read.calls k t538 t539 t537 t542 t543 _ A7.out).mono ?_); rintro e w25 ⟨rfl, hb⟩; refine ⟨_, rfl, ?_⟩; replace BK541 := kN (g := gb541) (cs := #[.string t538, .int .i64 t539]) hb bk; replace HB := bN bz hb; (try clear hb); (try clear hb2); (try clear hk); (try clear hi); obtain ⟨hcz26_0, hcz26_1, hfz26_0, hfz26_1⟩ := cz2 (W := w25) BK541) | (go_at_call 15; (with_reducible refine (platenlaw05_lives.calls k  t545 _ A21.out).mono ?_); rintro e w27 ⟨rfl, hb⟩; replace BK541 := kN (g := gb541) (cs := #[.string t538, .int .i64 t539]) hb bk; replace HB := bN bz hb; (try clear hb); (try clear hb2); (try clear hk); (try clear hi)))
       go_ret
       exact ⟨ez, bz⟩
      ·rw [if_neg c20] at H
       have c20b0 := decide_eq_false c20
       have c20b1 : decide (t538.size ≤ 17) = false := decide_eq_false (by omega)
       clear c20
       obtain rfl := Option.some.inj H
       go_enter Tryd.func6, Tryd.ntmps6
       go_wp2_with (first | ((with_reducible refine gate_callee (f := 21) rfl ?_); refine goesL_ (some 13) rfl rfl Tryd.func21 (by kernel_rfl) rfl #[.bool true] rfl lz ?_; (with_reducible refine (platenlaw05_sized.calls true t535 _ A3.out).mono ?_); rintro e w' ⟨rfl, ⟨nd, rfl⟩⟩; refine ⟨_, rfl, ?_⟩) | ((with_reducible refine gate_callee (f := 20) rfl ?_); refine goesL_ (some 14) rfl rfl Tryd.func20 (by kernel_rfl) rfl #[.int .u64 a0, .int .i64 t535] rfl lz ?_; (with_reducible refine (platenlaw05_finite.calls a0 t535 t536 _ A4.out).mono ?_); rintro e w' ⟨rfl, ⟨nd, rfl⟩⟩; refine ⟨_, rfl, ?_⟩) | ((with_reducible refine gate_callee (f := 21) rfl ?_); refine goesL_ (some 16) rfl rfl Tryd.func21 (by kernel_rfl) rfl #[.bool true] rfl lz ?_; (with_reducible refine (platenlaw05_sized.calls true t537 _ A5.out).mono ?_); rintro e w' ⟨rfl, ⟨nd, rfl⟩⟩; refine ⟨_, rfl, ?_⟩) | ((with_reducible refine gate_callee (f := 18) rfl ?_); refine goesL_ (some 20) rfl rfl Tryd.func18 (by kernel_rfl) rfl #[.int .u64 t536, .int .i64 t537] rfl lz ?_; (with_reducible refine (short_Shortest.calls k t536 t537 t538 t539 t540 _ A6.out).mono ?_); rintro e w28 ⟨rfl, hb⟩; refine ⟨_, rfl, ?_⟩; replace HB := bN bz hb; (try clear hb); (try clear hb2); (try clear hk); (try clear hi)) | ((with_reducible refine gate_dst (N := 7) rfl ?_); (try (refine gate_guard (by rfl) ?_; dsimp only)); refine box_event rfl (N := 7) rfl (cs := #[.string (⟨#[]⟩ : ByteArray), .int .i64 0]) (t := 28) gz ?_; intro gb541 hg w29 hbox hb; have GW541 := gN bz hg; have GE541 := gN bz hg; have BK541 := Aside0.mk hbox; replace HB := bN bz hb; clear hb hbox hg; obtain ⟨hcz30_0, hcz30_1, hfz30_0, hfz30_1⟩ := cz2 (W := w29) BK541) | ((with_reducible refine gate_callee (f := 16) rfl ?_); refine goesL_ (some 26) rfl rfl Tryd.func16 (by kernel_rfl) rfl #[.agg #[.string t538, .int .i64 t539], .int .i64 t537] rfl lz ?_; (with_reducible refine (short_Read.calls k t538 t539 t537 t542 t543 _ A7.out).mono ?_); rintro e w31 ⟨rfl, hb⟩; refine ⟨_, rfl, ?_⟩; replace BK541 := kN (g := gb541) (cs := #[.string t538, .int .i64 t539]) hb bk; replace HB := bN bz hb; (try clear hb); (try clear hb2); (try clear hk); (try clear hi); obtain ⟨hcz32_0, hcz32_1, hfz32_0, hfz32_1⟩ := cz2 (W := w31) BK541))
       go_ret
       exact ⟨ez, bz⟩
     ·replace c19 := Bool.eq_false_iff.mpr c19
      subst c19
      replace H := hF H
      obtain rfl := Option.some.inj H
      go_enter Tryd.func6, Tryd.ntmps6
      go_wp2_with (first | ((with_reducible refine gate_callee (f := 21) rfl ?_); refine goesL_ (some 13) rfl rfl Tryd.func21 (by kernel_rfl) rfl #[.bool false] rfl lz ?_; (with_reducible refine (platenlaw05_sized.calls false t535 _ A3.out).mono ?_); rintro e w' ⟨rfl, ⟨nd, rfl⟩⟩; refine ⟨_, rfl, ?_⟩) | ((with_reducible refine gate_callee (f := 20) rfl ?_); refine goesL_ (some 14) rfl rfl Tryd.func20 (by kernel_rfl) rfl #[.int .u64 a0, .int .i64 t535] rfl lz ?_; (with_reducible refine (platenlaw05_finite.calls a0 t535 t536 _ A4.out).mono ?_); rintro e w' ⟨rfl, ⟨nd, rfl⟩⟩; refine ⟨_, rfl, ?_⟩) | ((with_reducible refine gate_callee (f := 21) rfl ?_); refine goesL_ (some 16) rfl rfl Tryd.func21 (by kernel_rfl) rfl #[.bool false] rfl lz ?_; (with_reducible refine (platenlaw05_sized.calls false t537 _ A5.out).mono ?_); rintro e w' ⟨rfl, ⟨nd, rfl⟩⟩; refine ⟨_, rfl, ?_⟩) | ((with_reducible refine gate_callee (f := 18) rfl ?_); refine goesL_ (some 20) rfl rfl Tryd.func18 (by kernel_rfl) rfl #[.int .u64 t536, .int .i64 t537] rfl lz ?_; (with_reducible refine (short_Shortest.calls k t536 t537 t538 t539 t540 _ A6.out).mono ?_); rintro e w33 ⟨rfl, hb⟩; refine ⟨_, rfl, ?_⟩; replace HB := bN bz hb; (try clear hb); (try clear hb2); (try clear hk); (try clear hi)) | ((with_reducible refine gate_dst (N := 7) rfl ?_); (try (refine gate_guard (by rfl) ?_; dsimp only)); refine box_event rfl (N := 7) rfl (cs := #[.string (⟨#[]⟩ : ByteArray), .int .i64 0]) (t := 28) gz ?_; intro gb541 hg w34 hbox hb; have GW541 := gN bz hg; have GE541 := gN bz hg; have BK541 := Aside0.mk hbox; replace HB := bN bz hb; clear hb hbox hg; obtain ⟨hcz35_0, hcz35_1, hfz35_0, hfz35_1⟩ := cz2 (W := w34) BK541) | ((with_reducible refine gate_callee (f := 16) rfl ?_); refine goesL_ (some 26) rfl rfl Tryd.func16 (by kernel_rfl) rfl #[.agg #[.string t538, .int .i64 t539], .int .i64 t537] rfl lz ?_; (with_reducible refine (short_Read.calls k t538 t539 t537 t542 t543 _ A7.out).mono ?_); rintro e w36 ⟨rfl, hb⟩; refine ⟨_, rfl, ?_⟩; replace BK541 := kN (g := gb541) (cs := #[.string t538, .int .i64 t539]) hb bk; replace HB := bN bz hb; (try clear hb); (try clear hb2); (try clear hk); (try clear hi); obtain ⟨hcz37_0, hcz37_1, hfz37_0, hfz37_1⟩ := cz2 (W := w36) BK541))
      go_ret
      exact ⟨ez, bz⟩
   ·rw [if_neg c10] at H
    obtain ⟨c10b0, c10b1⟩ := eF c10
    obtain rfl := Option.some.inj H
    go_enter Tryd.func6, Tryd.ntmps6
    go_wp2_with (first | ((with_reducible refine gate_callee (f := 21) rfl ?_); refine goesL_ (some 13) rfl rfl Tryd.func21 (by kernel_rfl) rfl #[.bool a1] rfl lz ?_; (with_reducible refine (platenlaw05_sized.calls a1 t535 _ A3.out).mono ?_); rintro e w' ⟨rfl, ⟨nd, rfl⟩⟩; refine ⟨_, rfl, ?_⟩) | ((with_reducible refine gate_callee (f := 20) rfl ?_); refine goesL_ (some 14) rfl rfl Tryd.func20 (by kernel_rfl) rfl #[.int .u64 a0, .int .i64 t535] rfl lz ?_; (with_reducible refine (platenlaw05_finite.calls a0 t535 t536 _ A4.out).mono ?_); rintro e w' ⟨rfl, ⟨nd, rfl⟩⟩; refine ⟨_, rfl, ?_⟩) | ((with_reducible refine gate_callee (f := 21) rfl ?_); refine goesL_ (some 16) rfl rfl Tryd.func21 (by kernel_rfl) rfl #[.bool a1] rfl lz ?_; (with_reducible refine (platenlaw05_sized.calls a1 t537 _ A5.out).mono ?_); rintro e w' ⟨rfl, ⟨nd, rfl⟩⟩; refine ⟨_, rfl, ?_⟩) | ((with_reducible refine gate_callee (f := 18) rfl ?_); refine goesL_ (some 20) rfl rfl Tryd.func18 (by kernel_rfl) rfl #[.int .u64 t536, .int .i64 t537] rfl lz ?_; (with_reducible refine (short_Shortest.calls k t536 t537 t538 t539 t540 _ A6.out).mono ?_); rintro e w38 ⟨rfl, hb⟩; refine ⟨_, rfl, ?_⟩; replace HB := bN bz hb; (try clear hb); (try clear hb2); (try clear hk); (try clear hi)) | ((with_reducible refine gate_dst (N := 7) rfl ?_); (try (refine gate_guard (by rfl) ?_; dsimp only)); refine box_event rfl (N := 7) rfl (cs := #[.string (⟨#[]⟩ : ByteArray), .int .i64 0]) (t := 28) gz ?_; intro gb541 hg w39 hbox hb; have GW541 := gN bz hg; have GE541 := gN bz hg; have BK541 := Aside0.mk hbox; replace HB := bN bz hb; clear hb hbox hg; obtain ⟨hcz40_0, hcz40_1, hfz40_0, hfz40_1⟩ := cz2 (W := w39) BK541) | ((with_reducible refine gate_callee (f := 16) rfl ?_); refine goesL_ (some 26) rfl rfl Tryd.func16 (by kernel_rfl) rfl #[.agg #[.string t538, .int .i64 t539], .int .i64 t537] rfl lz ?_; (with_reducible refine (short_Read.calls k t538 t539 t537 t542 t543 _ A7.out).mono ?_); rintro e w41 ⟨rfl, hb⟩; refine ⟨_, rfl, ?_⟩; replace BK541 := kN (g := gb541) (cs := #[.string t538, .int .i64 t539]) hb bk; replace HB := bN bz hb; (try clear hb); (try clear hb2); (try clear hk); (try clear hi)))
    go_ret
    exact ⟨ez, bz⟩
  ·rw [if_neg c9] at H
   obtain ⟨c9b0, c9b1⟩ := eF c9
   obtain rfl := Option.some.inj H
   go_enter Tryd.func6, Tryd.ntmps6
   go_wp2_with (first | ((with_reducible refine gate_callee (f := 21) rfl ?_); refine goesL_ (some 13) rfl rfl Tryd.func21 (by kernel_rfl) rfl #[.bool a1] rfl lz ?_; (with_reducible refine (platenlaw05_sized.calls a1 t535 _ A3.out).mono ?_); rintro e w' ⟨rfl, ⟨nd, rfl⟩⟩; refine ⟨_, rfl, ?_⟩) | ((with_reducible refine gate_callee (f := 20) rfl ?_); refine goesL_ (some 14) rfl rfl Tryd.func20 (by kernel_rfl) rfl #[.int .u64 a0, .int .i64 t535] rfl lz ?_; (with_reducible refine (platenlaw05_finite.calls a0 t535 t536 _ A4.out).mono ?_); rintro e w' ⟨rfl, ⟨nd, rfl⟩⟩; refine ⟨_, rfl, ?_⟩) | ((with_reducible refine gate_callee (f := 21) rfl ?_); refine goesL_ (some 16) rfl rfl Tryd.func21 (by kernel_rfl) rfl #[.bool a1] rfl lz ?_; (with_reducible refine (platenlaw05_sized.calls a1 t537 _ A5.out).mono ?_); rintro e w' ⟨rfl, ⟨nd, rfl⟩⟩; refine ⟨_, rfl, ?_⟩) | ((with_reducible refine gate_callee (f := 18) rfl ?_); refine goesL_ (some 20) rfl rfl Tryd.func18 (by kernel_rfl) rfl #[.int .u64 t536, .int .i64 t537] rfl lz ?_; (with_reducible refine (short_Shortest.calls k t536 t537 t538 t539 t540 _ A6.out).mono ?_); rintro e w42 ⟨rfl, hb⟩; refine ⟨_, rfl, ?_⟩; replace HB := bN bz hb; (try clear hb); (try clear hb2); (try clear hk); (try clear hi)) | ((with_reducible refine gate_dst (N := 7) rfl ?_); (try (refine gate_guard (by rfl) ?_; dsimp only)); refine box_event rfl (N := 7) rfl (cs := #[.string (⟨#[]⟩ : ByteArray), .int .i64 0]) (t := 28) gz ?_; intro gb541 hg w43 hbox hb; have GW541 := gN bz hg; have GE541 := gN bz hg; have BK541 := Aside0.mk hbox; replace HB := bN bz hb; clear hb hbox hg; obtain ⟨hcz44_0, hcz44_1, hfz44_0, hfz44_1⟩ := cz2 (W := w43) BK541) | ((with_reducible refine gate_callee (f := 16) rfl ?_); refine goesL_ (some 26) rfl rfl Tryd.func16 (by kernel_rfl) rfl #[.agg #[.string t538, .int .i64 t539], .int .i64 t537] rfl lz ?_; (with_reducible refine (short_Read.calls k t538 t539 t537 t542 t543 _ A7.out).mono ?_); rintro e w45 ⟨rfl, hb⟩; refine ⟨_, rfl, ?_⟩; replace BK541 := kN (g := gb541) (cs := #[.string t538, .int .i64 t539]) hb bk; replace HB := bN bz hb; (try clear hb); (try clear hb2); (try clear hk); (try clear hi)))
   go_ret
   exact ⟨ez, bz⟩
 ·rw [if_neg c8] at H
  obtain ⟨c8b0, c8b1⟩ := eF c8
  obtain rfl := Option.some.inj H
  go_enter Tryd.func6, Tryd.ntmps6
  go_wp2_with (first | ((with_reducible refine gate_callee (f := 21) rfl ?_); refine goesL_ (some 13) rfl rfl Tryd.func21 (by kernel_rfl) rfl #[.bool a1] rfl lz ?_; (with_reducible refine (platenlaw05_sized.calls a1 t535 _ A3.out).mono ?_); rintro e w' ⟨rfl, ⟨nd, rfl⟩⟩; refine ⟨_, rfl, ?_⟩) | ((with_reducible refine gate_callee (f := 20) rfl ?_); refine goesL_ (some 14) rfl rfl Tryd.func20 (by kernel_rfl) rfl #[.int .u64 a0, .int .i64 t535] rfl lz ?_; (with_reducible refine (platenlaw05_finite.calls a0 t535 t536 _ A4.out).mono ?_); rintro e w' ⟨rfl, ⟨nd, rfl⟩⟩; refine ⟨_, rfl, ?_⟩) | ((with_reducible refine gate_callee (f := 21) rfl ?_); refine goesL_ (some 16) rfl rfl Tryd.func21 (by kernel_rfl) rfl #[.bool a1] rfl lz ?_; (with_reducible refine (platenlaw05_sized.calls a1 t537 _ A5.out).mono ?_); rintro e w' ⟨rfl, ⟨nd, rfl⟩⟩; refine ⟨_, rfl, ?_⟩) | ((with_reducible refine gate_callee (f := 18) rfl ?_); refine goesL_ (some 20) rfl rfl Tryd.func18 (by kernel_rfl) rfl #[.int .u64 t536, .int .i64 t537] rfl lz ?_; (with_reducible refine (short_Shortest.calls k t536 t537 t538 t539 t540 _ A6.out).mono ?_); rintro e w46 ⟨rfl, hb⟩; refine ⟨_, rfl, ?_⟩; replace HB := bN bz hb; (try clear hb); (try clear hb2); (try clear hk); (try clear hi)) | ((with_reducible refine gate_dst (N := 7) rfl ?_); (try (refine gate_guard (by rfl) ?_; dsimp only)); refine box_event rfl (N := 7) rfl (cs := #[.string (⟨#[]⟩ : ByteArray), .int .i64 0]) (t := 28) gz ?_; intro gb541 hg w47 hbox hb; have GW541 := gN bz hg; have GE541 := gN bz hg; have BK541 := Aside0.mk hbox; replace HB := bN bz hb; clear hb hbox hg; obtain ⟨hcz48_0, hcz48_1, hfz48_0, hfz48_1⟩ := cz2 (W := w47) BK541) | ((with_reducible refine gate_callee (f := 16) rfl ?_); refine goesL_ (some 26) rfl rfl Tryd.func16 (by kernel_rfl) rfl #[.agg #[.string t538, .int .i64 t539], .int .i64 t537] rfl lz ?_; (with_reducible refine (short_Read.calls k t538 t539 t537 t542 t543 _ A7.out).mono ?_); rintro e w49 ⟨rfl, hb⟩; refine ⟨_, rfl, ?_⟩; replace BK541 := kN (g := gb541) (cs := #[.string t538, .int .i64 t539]) hb bk; replace HB := bN bz hb; (try clear hb); (try clear hb2); (try clear hk); (try clear hi)))
  go_ret
  exact ⟨ez, bz⟩
end Go.Proofs.YtmeapdchnnpceaaDoor.Fn
end
section
namespace Go.Proofs.YtmeapdchnnpceaaDoor.Pure
open Go.RowKit Go.Proofs.YtmeapdchnnpceaaDoorW.PrintWords Go.Proofs.YtmeapdchnnpceaaDoor.Fn
set_option linter.unusedVariables false
set_option linter.unusedSimpArgs false
theorem shortS_fin (wide : Bool) {p : Nat} (hp : p < ii wide) : shortS wide p = if p = 0 then (⟨#[]⟩, 0, 0) else (S (shortD wide p).1, (shortD wide p).2, 0) := by
  unfold shortS
  rw [bare_fin wide hp, if_neg (by omega)]
theorem gap_ge {V Y U g A B : Nat} (h1 : 2 * V ≤ 2 * Y + U) (h2 : 2 * Y ≤ 2 * V + U) (hU : U < 2 * g) (hA : V = A + g) (hB : V + g ≤ B) : A < Y ∧ Y < B := by omega
theorem lo_gap {a b w C : Nat} (h : a + w = b) : b * (2 * C) = (a + b) * C + w * C := by
  subst h
  rw [← Nat.add_mul, Nat.mul_comm 2 C, ← Nat.mul_assoc, Nat.mul_comm _ 2, ← Nat.mul_assoc, show 2 * (a + w) = a + (a + w) + w by omega]
theorem hi_gap {b c w g C : Nat} (h : c = b + w) (hg : g ≤ w) : b * (2 * C) + g * C ≤ (b + c) * C := by
  subst h
  have h1 : b * (2 * C) = 2 * b * C := by rw [← Nat.mul_assoc, Nat.mul_comm b 2]
  rw [h1, ← Nat.add_mul]
  exact Nat.mul_le_mul_right C (by omega)
theorem near_in (wide : Bool) {p : Nat} (hp : 0 < p) (hi : p < ii wide) {n : Nat} (hn : n < (exV wide p).1.length) (h1 : 1 ≤ n) (hN : 2 ^ (ff wide + 1) < 10 ^ (n - 1)) : isP wide p (nearU (exV wide p) n) (cE (exV wide p) n) := by
  have hv := exV_val wide hi
  obtain ⟨U, u1, u2, u3⟩ := near_num (l := (exV wide p).1) (q := (exV wide p).2) hv.form.1 hv.form.2.1 hv.lo hv.len wide hn h1
  rw [exV_X wide hi] at u1 u2 u3
  unfold isP
  rw [← inX_iff wide hp hi]
  refine .inl ?_
  unfold loX hiX
  change 2 * _ ≤ 2 * dX wide (nearU (exV wide p) n) (cE (exV wide p) n) + U at u1
  change 2 * dX wide (nearU (exV wide p) n) (cE (exV wide p) n) ≤ _ at u2
  generalize dX wide (nearU (exV wide p) n) (cE (exV wide p) n) = Y at *
  generalize 10 ^ (n - 1) = N at *
  have hC := CC_pos
  have hs := fW_step (ff wide) p
  have hq := fW_pred (f := ff wide) hp
  have hm := fM_lt (ff wide) p
  have hW : fW (ff wide) p = fM (ff wide) p * 2 ^ fE (ff wide) p := rfl
  obtain ⟨m, hVm, hmN, hle⟩ : ∃ m, fW (ff wide) p = m * 2 ^ fE (ff wide) (p - 1) ∧ m < N ∧ 2 ^ fE (ff wide) (p - 1) ≤ 2 ^ fE (ff wide) p := by
    by_cases c : fM (ff wide) p ≠ 2 ^ ff wide ∨ fE (ff wide) p = 0
    · have e := fE_pred hp c
      rw [e]
      exact ⟨_, hW, Nat.lt_trans hm hN, Nat.le_refl _⟩
    · have c1 : fM (ff wide) p = 2 ^ ff wide := Classical.byContradiction fun h => c (.inl h)
      have c2 : fE (ff wide) p ≠ 0 := fun h => c (.inr h)
      have e := fE_pred2 c1 c2
      refine ⟨2 ^ (ff wide + 1), ?_, hN, Nat.pow_le_pow_right (by decide) (by omega)⟩
      rw [hW, c1, ← e, Nat.pow_succ 2 (fE _ _), Nat.pow_succ 2 (ff wide), ← Nat.mul_assoc, Nat.mul_right_comm]
  have hg : 0 < 2 ^ fE (ff wide) (p - 1) * CC := Nat.mul_pos (two_pos _) hC
  have hV : fW (ff wide) p * (2 * CC) = 2 * (m * (2 ^ fE (ff wide) (p - 1) * CC)) := by
    rw [hVm, Nat.mul_comm 2 CC, ← Nat.mul_assoc, Nat.mul_comm _ 2, Nat.mul_assoc m]
  have hU := span_num (C := 0) (lo := 0) (hi := 0) u1 u2 u3 hV ⟨by omega, by omega⟩ hmN hg
  have hA := lo_gap (C := CC) hq
  have hB := hi_gap (C := CC) hs hle
  exact gap_ge u1 u2 hU hA hB
theorem dg_pow (wide : Bool) : 2 ^ (ff wide + 1) < 10 ^ ((if wide then 17 else 9) - 1) := by cases wide <;> decide
theorem short_len (wide : Bool) {p : Nat} (hp : p < ii wide) (h0 : p ≠ 0) : (shortD wide p).1.length ≤ if wide then 17 else 9 := by
  obtain ⟨n, hn⟩ : ∃ n : Nat, (if wide then 17 else 9) = n := ⟨_, rfl⟩
  have hpow := dg_pow wide
  rw [hn] at hpow ⊢
  have hn1 : 1 ≤ n := by rw [← hn]; cases wide <;> decide
  obtain ⟨M, h1, h2, h3⟩ := short_spec wide p
  have hle : M ≤ n := by
    refine Nat.le_of_not_lt fun c => ?_
    have h4 := best_none (h3 n hn1 c)
    exact h4.2.1 (near_in wide (Nat.pos_of_ne_zero h0) hp h4.1 hn1 hpow)
  exact Nat.le_trans (best_len (exV_val wide hp) h1 h2) hle
theorem read_zero (wide : Bool) : rdS wide (⟨#[]⟩ : ByteArray) 0 = (0, 0) := by
  have h := exV_val wide (p := 0) (by cases wide <;> decide)
  have h2 := read_exact wide (p := 0) (by cases wide <;> decide)
  have e : exV wide 0 = ([], 0) := by
    unfold exV exD
    rw [show fM (ff wide) 0 = 0 by cases wide <;> rfl, Nat.zero_mul]
    rfl
  rw [e] at h2
  exact h2
theorem back_read (wide : Bool) {p : Nat} (hp : p < ii wide) : rdS wide (shortS wide p).1 (shortS wide p).2.1 = ((p : Int), 0) := by
  rw [shortS_fin wide hp]
  by_cases c : p = 0
  · rw [if_pos c, c]; exact read_zero wide
  · rw [if_neg c]
    obtain ⟨M, h1, h2, h3⟩ := short_spec wide p
    exact best_read hp h2
theorem short_err (wide : Bool) {p : Nat} (hp : p < ii wide) : (shortS wide p).2.2 = 0 := by
  rw [shortS_fin wide hp]; split <;> rfl
theorem short_size (wide : Bool) {p : Nat} (hp : p < ii wide) : (shortS wide p).1.size ≤ if wide then 17 else 9 := by
  rw [shortS_fin wide hp]
  by_cases c : p = 0
  · rw [if_pos c]; exact Nat.zero_le _
  · rw [if_neg c]
    show (S (shortD wide p).1).size ≤ _
    rw [size_S]
    exact short_len wide hp c
theorem ii_two (wide : Bool) : ii wide < 18446744073709551616 := by cases wide <;> decide
theorem ShortBack : ∀ (a0 : Int) (a1 : Bool), (Lit.int .u64 a0).wf = true → ∃ k, platenlaw05_ShortBack.f k a0 a1 = some true := by
  intro a0 wide h0
  obtain ⟨a, rfl, ha⟩ := wf_u64 h0
  refine Ev.rounds (g := fun k => platenlaw05_ShortBack.f k (a : Int) wide) ?_
  unfold platenlaw05_ShortBack.f
  obtain ⟨p, hp, hpi⟩ := finite_eq wide a ha
  rw [sized_law]
  simp only [Option.bind_some]
  rw [hp]
  simp only [Option.bind_some]
  refine Ev.bind (shortest_eq wide p (Nat.lt_trans hpi (ii_two wide))) ?_
  refine Ev.bind (read_eq wide _ _) ?_
  rw [back_read wide hpi]
  refine Ev.congr (fun k => if_pos (short_err wide hpi)) ?_
  refine Ev.congr (fun k => if_pos rfl) ?_
  refine Ev.congr (fun k => if_pos rfl) ?_
  have hs := short_size wide hpi
  by_cases c : (shortS wide p).1.size ≤ 9
  · exact Ev.congr (fun k => if_pos (by omega)) livesEnd
  · refine Ev.congr (fun k => if_neg (by omega)) ?_
    cases wide with
    | false => exact absurd hs c
    | true =>
      refine Ev.congr (fun k => if_pos rfl) ?_
      exact Ev.congr (fun k => if_pos (by simp at hs; omega)) livesEnd
end Go.Proofs.YtmeapdchnnpceaaDoor.Pure
end
