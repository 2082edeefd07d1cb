/- The law ShortRefuses: the walks through its functions and its plain law (part 4). Own texts and the kit's printed words for this seat, without what the law does not use: put together by merge.py (of this work). -/
import Derived.Test.YtmeapdchnnpceaaDoorMShortRefuses3
import Derived.Handy
section
namespace Go.Proofs.YtmeapdchnnpceaaDoor.Pure
open Go.RowKit Go.Proofs.YtmeapdchnnpceaaDoorW.PrintWords Go.Proofs.YtmeapdchnnpceaaDoor.Fn
set_option linter.unusedVariables false
set_option linter.unusedSimpArgs false
theorem one_decOf (u : Int) : (S ([49] : List UInt8), u + 1) = (S (decOf 1 u).1, (decOf 1 u).2) := by
  unfold decOf
  rw [if_neg (by omega)]
  have h1 : digs 1 = [49] := rfl
  rw [h1]
  have h2 : rz [49] = [49] := rfl
  rw [h2]
  simp
  omega
theorem normS_all {l : List UInt8} (h : AllD l) {p : Int} (hl : l.length ≤ 2000) (hp : -5000 ≤ p ∧ p ≤ 5000) : normS (S l) p = (S (decOf (val l) (p - l.length)).1, (decOf (val l) (p - l.length)).2, 0) := by
  unfold normS normTail
  rw [if_neg (by rw [size_S]; omega), L_S, if_pos (all_isD h), if_neg (by omega), if_neg (by omega), formL_eq h]
  rfl
theorem dec_bound {n k : Nat} {e : Int} (h : n < 10 ^ k) (hk : k ≤ 1400) (he : -3000 ≤ e) (h2 : e + k ≤ 3000) : (decOf n e).1.length ≤ 2000 ∧ -5000 ≤ (decOf n e).2 ∧ (decOf n e).2 ≤ 5000 := by
  have := decOf_bound h e
  omega
structure Val (wide : Bool) (p : Nat) (v : List UInt8 × Int) : Prop where
  form : InForm v.1 v.2
  len : v.1.length ≤ 1300
  lo : -1200 ≤ v.2
  hi : v.2 ≤ 1300
def cU (v : List UInt8 × Int) (n : Nat) : Nat := val (v.1.take n)
def cE (v : List UInt8 × Int) (n : Nat) : Int := v.2 - n
def isP (wide : Bool) (p : Nat) (n : Nat) (x : Int) : Prop := rdX wide (dX wide n x) = p
instance (wide : Bool) (p n : Nat) (x : Int) : Decidable (isP wide p n x) := by unfold isP; infer_instance
def nearU (v : List UInt8 × Int) (n : Nat) : Nat := if downP v.1 n then cU v n else cU v n + 1
def bestD (wide : Bool) (p : Nat) (v : List UInt8 × Int) (n : Nat) : Option (List UInt8 × Int) :=
  if v.1.length ≤ n then some v
  else if isP wide p (nearU v n) (cE v n) then some (decOf (nearU v n) (cE v n))
  else if isP wide p (cU v n) (cE v n) then some (decOf (cU v n) (cE v n))
  else if isP wide p (cU v n + 1) (cE v n) then some (decOf (cU v n + 1) (cE v n)) else none
def optD (o : Option (List UInt8 × Int)) : ByteArray × Int × Bool := match o with
  | some d => (S d.1, d.2, true)
  | none => (⟨#[]⟩, 0, false)
structure Span (wide : Bool) (p : Nat) (lo hi : List UInt8 × Int) : Prop where
  f1 : InForm lo.1 lo.2
  f2 : InForm hi.1 hi.2
  b1 : lo.1.length ≤ 2000 ∧ -5000 ≤ lo.2 ∧ lo.2 ≤ 5000
  b2 : hi.1.length ≤ 2000 ∧ -5000 ≤ hi.2 ∧ hi.2 ≤ 5000
  c1 : ∀ (n : Nat) (x : Int), -(vv : Int) ≤ x → cmpD lo.1 lo.2 (decOf n x).1 (decOf n x).2 = cmpN (loX wide p) (dX wide n x)
  c2 : ∀ (n : Nat) (x : Int), -(vv : Int) ≤ x → cmpD hi.1 hi.2 (decOf n x).1 (decOf n x).2 = cmpN (hiX wide p) (dX wide n x)
theorem in_ev {wide : Bool} {p : Nat} {lo hi : List UInt8 × Int} (hs : Span wide p lo hi) (hp : 0 < p) (hi2 : p < ii wide) {n k : Nat} {e : Int} (h : n < 10 ^ k) (hk : k ≤ 1400) (he : -3000 ≤ e) (h2 : e + k ≤ 3000) :
    Ev (fun r => short_span_in.f r (S lo.1) lo.2 (S hi.1) hi.2 (decide (p % 2 = 0)) (S (decOf n e).1) (decOf n e).2) (decide (isP wide p n e)) := by
  have hv := vv_eq
  exact span_ev wide p _ rfl rfl rfl hs.f1 hs.f2 (inForm_decOf n e) hs.b1 hs.b2 (dec_bound h hk he h2) (hs.c1 n e (by omega)) (hs.c2 n e (by omega)) _ (by rw [decide_eq_true_iff]; exact (inX_iff wide hp hi2 _).symm)
theorem cU_lt {wide : Bool} {p : Nat} {v : List UInt8 × Int} (hv : Val wide p v) (n : Nat) (hn : n < v.1.length) : cU v n < 10 ^ n := by
  have := val_lt (hv.form.1.take n)
  rw [List.length_take, Nat.min_eq_left (by omega)] at this
  exact this
theorem nearU_two (v : List UInt8 × Int) (n : Nat) : nearU v n = cU v n ∨ nearU v n = cU v n + 1 := by
  unfold nearU
  split
  · exact .inl rfl
  · exact .inr rfl
theorem round_v {wide : Bool} {p : Nat} {v : List UInt8 × Int} (hv : Val wide p v) (n : Nat) (hn : n < v.1.length) : roundN v.1 v.2 (n : Int) = decOf (nearU v n) (cE v n) := by
  unfold roundN nearU cU cE
  rw [if_neg (by omega), if_neg (by omega), Int.toNat_natCast]
  by_cases c : downP v.1 n
  · rw [if_pos c, if_pos c]
  · rw [if_neg c, if_neg c]
theorem Val.five {wide : Bool} {p : Nat} {v : List UInt8 × Int} (hv : Val wide p v) : v.1.length ≤ 2000 ∧ -5000 ≤ v.2 ∧ v.2 ≤ 5000 := by
  have := hv.len
  have := hv.lo
  have := hv.hi
  omega
theorem best_ev {wide : Bool} {p : Nat} {lo hi v : List UInt8 × Int} (hs : Span wide p lo hi) (hv : Val wide p v) (hp : 0 < p) (hi2 : p < ii wide) (n : Nat) :
    Ev (fun k => short_best.f k (S v.1) v.2 (n : Int) (S lo.1) lo.2 (S hi.1) hi.2 (decide (p % 2 = 0))) (optD (bestD wide p v n)) := by
  have hl := hv.len
  have hlo := hv.lo
  have hhi := hv.hi
  have h5 := hv.five
  unfold short_best.f bestD
  rw [size_S]
  by_cases c1 : v.1.length ≤ n
  · rw [if_pos c1]
    exact Ev.congr (fun k => if_pos (by omega)) (Ev.now _)
  · rw [if_neg c1]
    refine Ev.congr (fun k => if_neg (by omega)) ?_
    have hn : n < v.1.length := by omega
    have hu := cU_lt hv n hn
    have hu1 : cU v n + 1 < 10 ^ (n + 1) := by
      rw [Nat.pow_succ]
      have : 1 ≤ 10 ^ n := Nat.pow_pos (by omega)
      omega
    have hE : -3000 ≤ cE v n ∧ cE v n + ((n + 1 : Nat) : Int) ≤ 3000 := by unfold cE; omega
    have hnr : nearU v n < 10 ^ (n + 1) := by rcases nearU_two v n with h | h <;> rw [h] <;> omega
    have hr := roundS_eq (S v.1) v.2 (n : Int)
    have e1 : roundS (S v.1) v.2 (fun _ => (n : Int)) = (S (decOf (nearU v n) (cE v n)).1, (decOf (nearU v n) (cE v n)).2, 0) := by
      unfold roundS
      rw [normS_ok hv.form h5.1 h5.2, if_pos rfl]
      simp only [L_S]
      rw [round_v hv n hn]
      rfl
    rw [e1] at hr
    refine Ev.bind hr ?_
    refine Ev.bind (in_ev hs hp hi2 hnr (by omega) hE.1 hE.2) ?_
    by_cases c2 : isP wide p (nearU v n) (cE v n)
    · rw [if_pos c2]
      refine Ev.congr (fun k => if_pos (decide_eq_true c2)) (Ev.now _)
    · rw [if_neg c2]
      refine Ev.congr (fun k => if_neg (fun h => c2 (of_decide_eq_true h))) ?_
      refine Ev.congr (fun k => if_pos (by omega)) ?_
      refine Ev.congr (fun k => if_pos (by omega)) ?_
      rw [Int.toNat_natCast, S_take]
      have hnm := norm_eq (S (v.1.take n)) v.2
      have htl : (v.1.take n).length = n := by rw [List.length_take, Nat.min_eq_left (by omega)]
      rw [normS_all (hv.form.1.take n) (by omega) h5.2, htl] at hnm
      rw [show val (v.1.take n) = cU v n from rfl, show v.2 - (n : Int) = cE v n from rfl] at hnm
      refine Ev.bind hnm ?_
      have hw : wrap64 (wrap64 (v.2 - (n : Int)) + 1) = cE v n + 1 := by
        unfold cE
        rw [wrap_id (x := v.2 - (n : Int)) (by omega) (by omega), wrap_id (by omega) (by omega)]
      rw [hw]
      have hone := one_decOf (cE v n)
      have ho1 : (S ([49] : List UInt8)) = S (decOf 1 (cE v n)).1 := congrArg Prod.fst hone
      have ho2 : cE v n + 1 = (decOf 1 (cE v n)).2 := congrArg Prod.snd hone
      have hadd := addS_eq (S (decOf (cU v n) (cE v n)).1) (decOf (cU v n) (cE v n)).2 (S (decOf 1 (cE v n)).1) (decOf 1 (cE v n)).2
      have hE' : cE v n + (n : Int) ≤ 3000 := by omega
      have hE1 : cE v n + ((1 : Nat) : Int) ≤ 3000 := by omega
      rw [addS_ok (inForm_decOf _ _) (inForm_decOf _ _) (dec_bound hu (by omega) hE.1 hE') (dec_bound (n := 1) (k := 1) (by decide) (by decide) hE.1 hE1)] at hadd
      have e2 : addD (decOf (cU v n) (cE v n)).1 (decOf (cU v n) (cE v n)).2 (decOf 1 (cE v n)).1 (decOf 1 (cE v n)).2 = (S (decOf (cU v n + 1) (cE v n)).1, (decOf (cU v n + 1) (cE v n)).2, 0) := by
        unfold addD
        rw [sum_decOf, if_neg (by have := (dec_bound hu1 (by omega) hE.1 hE.2).1; omega)]
        rfl
      rw [e2, ← ho1, ← ho2] at hadd
      refine Ev.bind (g := fun k => bigdec_Add.f k (S (decOf (cU v n) (cE v n)).1) (decOf (cU v n) (cE v n)).2 (⟨#[49]⟩ : ByteArray) (cE v n + 1)) hadd ?_
      refine Ev.step (fun k => by simp only [short_best.l0]; rfl) ?_
      refine Ev.congr (fun k => if_pos (by simp)) ?_
      refine Ev.congr (fun k => if_pos (by simp)) ?_
      refine Ev.bind (in_ev hs hp hi2 hu (by omega) hE.1 hE') ?_
      by_cases c3 : isP wide p (cU v n) (cE v n)
      · rw [if_pos c3]
        exact Ev.congr (fun k => if_pos (decide_eq_true c3)) (Ev.now _)
      · rw [if_neg c3]
        refine Ev.congr (fun k => if_neg (fun h => c3 (of_decide_eq_true h))) ?_
        rw [show wrap64 ((0 : Int) + 1) = 1 by simp [wrap64]]
        refine Ev.step (fun k => by simp only [short_best.l0]; rfl) ?_
        refine Ev.congr (fun k => if_pos (by simp)) ?_
        refine Ev.congr (fun k => if_neg (by simp)) ?_
        refine Ev.congr (fun k => if_pos (by simp)) ?_
        refine Ev.bind (in_ev hs hp hi2 hu1 (by omega) hE.1 hE.2) ?_
        by_cases c4 : isP wide p (cU v n + 1) (cE v n)
        · rw [if_pos c4]
          exact Ev.congr (fun k => if_pos (decide_eq_true c4)) (Ev.now _)
        · rw [if_neg c4]
          refine Ev.congr (fun k => if_neg (fun h => c4 (of_decide_eq_true h))) ?_
          rw [show wrap64 ((1 : Int) + 1) = 2 by simp [wrap64]]
          refine Ev.step (fun k => by simp only [short_best.l0]; rfl) ?_
          exact Ev.congr (fun k => if_neg (by simp)) (Ev.now _)
def shortGo (wide : Bool) (p : Nat) (v : List UInt8 × Int) : Nat → Nat → List UInt8 × Int
  | 0, _ => v
  | d + 1, n => match bestD wide p v n with
    | some r => r
    | none => shortGo wide p v d (n + 1)
theorem best_all (wide : Bool) (p : Nat) (v : List UInt8 × Int) {n : Nat} (h : v.1.length ≤ n) : bestD wide p v n = some v := by
  unfold bestD
  rw [if_pos h]
theorem loop_ev {wide : Bool} {p : Nat} {lo hi v : List UInt8 × Int} (hs : Span wide p lo hi) (hv : Val wide p v) (hp : 0 < p) (hi2 : p < ii wide) : ∀ (d n : Nat), v.1.length ≤ n + d → n ≤ 2000 →
    Ev (fun k => short_Shortest.l0 k (n : Int) (S v.1) v.2 (S lo.1) lo.2 (S hi.1) hi.2 (decide (p % 2 = 0))) (S (shortGo wide p v d n).1, (shortGo wide p v d n).2, 0) := by
  intro d
  induction d with
  | zero =>
    intro n h hn
    have hb := best_ev hs hv hp hi2 n
    rw [best_all wide p v (n := n) h] at hb
    refine Ev.step (fun k => by simp only [short_Shortest.l0]; rfl) ?_
    refine Ev.bind hb ?_
    exact Ev.congr (fun k => if_pos rfl) (Ev.now _)
  | succ d ih =>
    intro n h hn
    have hb := best_ev hs hv hp hi2 n
    refine Ev.step (fun k => by simp only [short_Shortest.l0]; rfl) ?_
    refine Ev.bind hb ?_
    unfold shortGo
    cases hbd : bestD wide p v n with
    | some r => exact Ev.congr (fun k => if_pos rfl) (Ev.now _)
    | none =>
      refine Ev.congr (fun k => if_neg (by decide)) ?_
      have hlen := hv.len
      have hn2 : n < v.1.length := by
        refine Nat.lt_of_not_le fun c => ?_
        rw [best_all wide p v c] at hbd
        cases hbd
      rw [wrap_id (by omega) (by omega), show ((n : Int) + 1) = ((n + 1 : Nat) : Int) by omega]
      exact ih (n + 1) (by omega) (by omega)
def exV (wide : Bool) (p : Nat) : List UInt8 × Int := exD (fM (ff wide) p) ((fE (ff wide) p : Int) - (ll wide : Int))
theorem exV_val (wide : Bool) {p : Nat} (hp : p < ii wide) : Val wide p (exV wide p) := by
  have h1 := fEl wide (Nat.le_of_lt hp)
  have h2 := fE_le wide (Nat.le_of_lt hp)
  have h := exD_small (m := fM (ff wide) p) (by omega) (e := (fE (ff wide) p : Int) - (ll wide : Int)) (by omega)
  exact ⟨exD_form _ _, h.1, h.2.1, h.2.2⟩
def shortD (wide : Bool) (p : Nat) : List UInt8 × Int := shortGo wide p (exV wide p) (exV wide p).1.length 1
def shortS (wide : Bool) (a : Nat) : ByteArray × Int × Int :=
  if ii wide ≤ bareN wide a then (⟨#[]⟩, 0, 1) else if bareN wide a = 0 then (⟨#[]⟩, 0, 0) else (S (shortD wide (bareN wide a)).1, (shortD wide (bareN wide a)).2, 0)
theorem hi_span (wide : Bool) {p : Nat} (hp : 0 < p) (hi : p < ii wide) {lo : List UInt8 × Int} (f1 : InForm lo.1 lo.2) (b1 : lo.1.length ≤ 2000 ∧ -5000 ≤ lo.2 ∧ lo.2 ≤ 5000)
    (c1 : ∀ (n : Nat) (x : Int), -(vv : Int) ≤ x → cmpD lo.1 lo.2 (decOf n x).1 (decOf n x).2 = cmpN (loX wide p) (dX wide n x)) :
    Span wide p lo (exD (2 * fM (ff wide) p + 1) ((fE (ff wide) p : Int) - (ll wide : Int) - 1)) := by
  have h1 := fEl wide (Nat.le_of_lt hi)
  have h2 := fE_le wide (Nat.le_of_lt hi)
  have h := exD_small (m := 2 * fM (ff wide) p + 1) (by omega) (e := (fE (ff wide) p : Int) - (ll wide : Int) - 1) (by omega)
  exact ⟨f1, exD_form _ _, b1, by omega, c1, fun n x hx => cmp_hi wide p n x hx⟩
theorem j1_ev {wide : Bool} {p : Nat} {lo hi : List UInt8 × Int} (hs : Span wide p lo hi) (hp : 0 < p) (hi2 : p < ii wide) :
    Ev (fun k => short_Shortest.j1 k (p : Int) (ff wide : Int) (-(ll wide : Int)) (ii wide : Int) (S lo.1) lo.2 (S hi.1) hi.2 (decide (p % 2 = 0))) (S (shortD wide p).1, (shortD wide p).2, 0) := by
  refine Ev.step (fun k => by simp only [short_Shortest.j1]; rfl) ?_
  have hsh := shapeExact_ev wide (Nat.le_of_lt hi2)
  refine Ev.bind hsh ?_
  exact loop_ev hs (exV_val wide hi2) hp hi2 (exV wide p).1.length 1 (by omega) (by omega)
theorem shortest_eq (wide : Bool) (a : Nat) (ha : a < 18446744073709551616) : Ev (fun k => short_Shortest.f k (a : Int) (szB wide)) (shortS wide a) := by
  obtain ⟨j, hj, ht, hw⟩ := tt_pow wide
  have hi := ii_lt wide
  have hmt := Nat.mod_lt a (tt_le wide).1
  have htt := (tt_le wide).2
  unfold short_Shortest.f
  rw [of_eq']
  simp only [Option.bind_some, if_true]
  rw [hw]
  refine Ev.congr (fun k => if_pos (by omega)) ?_
  rw [mask_one _ hj, and_mask _ _ (by omega) ha, ← ht]
  unfold shortS bareN
  obtain ⟨p, hp⟩ : ∃ p, a % tt wide = p := ⟨_, rfl⟩
  rw [hp] at hmt ⊢
  by_cases c1 : ii wide ≤ p
  · rw [if_pos c1]
    exact Ev.congr (fun k => if_pos (by omega)) (Ev.now _)
  · rw [if_neg c1]
    refine Ev.congr (fun k => if_neg (by omega)) ?_
    rw [value_eq wide p (by omega)]
    simp only [Option.bind_some]
    by_cases c2 : p = 0
    · rw [if_pos c2]
      have h0 : fM (ff wide) p = 0 := by rw [c2]; cases wide <;> decide
      exact Ev.congr (fun k => if_pos (by omega)) (Ev.now _)
    · rw [if_neg c2]
      have hp0 : 0 < p := by omega
      have hlt : p < ii wide := by omega
      have hm := fM_pos (f := ff wide) hp0
      refine Ev.congr (fun k => if_neg (by omega)) ?_
      have h1 := fEl wide (Nat.le_of_lt hlt)
      have h2 := fE_le wide (Nat.le_of_lt hlt)
      obtain ⟨e, he⟩ : ∃ e : Int, (fE (ff wide) p : Int) - (ll wide : Int) = e := ⟨_, rfl⟩
      have hlo2 := cmp_lo2 wide hp0
      have hlo1 := cmp_lo1 wide hp0
      have hsp := fun lo => @hi_span wide p hp0 hlt lo
      have hll := ll_two wide
      rw [he] at h1 hlo1 hlo2 hsp ⊢
      obtain ⟨m, hmm⟩ : ∃ m, fM (ff wide) p = m := ⟨_, rfl⟩
      rw [hmm] at hm h2 hlo1 hlo2 hsp ⊢
      have e1 : IntKind.u64.wrap (IntKind.u64.wrap (2 * (m : Int)) + 1) = ((2 * m + 1 : Nat) : Int) := by
        rw [show (2 : Int) * (m : Int) = ((2 * m : Nat) : Int) by omega, u64N _ (by omega), show (((2 * m : Nat) : Int) + 1) = ((2 * m + 1 : Nat) : Int) by omega, u64N _ (by omega)]
      have e2 : IntKind.u64.wrap (IntKind.u64.wrap (2 * (m : Int)) - 1) = ((2 * m - 1 : Nat) : Int) := by
        rw [show (2 : Int) * (m : Int) = ((2 * m : Nat) : Int) by omega, u64N _ (by omega), show (((2 * m : Nat) : Int) - 1) = ((2 * m - 1 : Nat) : Int) by omega, u64N _ (by omega)]
      have e4 : IntKind.u64.wrap (IntKind.u64.wrap (4 * (m : Int)) - 1) = ((4 * m - 1 : Nat) : Int) := by
        rw [show (4 : Int) * (m : Int) = ((4 * m : Nat) : Int) by omega, u64N _ (by omega), show (((4 * m : Nat) : Int) - 1) = ((4 * m - 1 : Nat) : Int) by omega, u64N _ (by omega)]
      have w1 : wrap64 (e - 1) = e - 1 := wrap_id (by omega) (by omega)
      have w2 : wrap64 (e - 2) = e - 2 := wrap_id (by omega) (by omega)
      have x1 := exact_eq (2 * m + 1) (e - 1) (by omega)
      rw [exactS_exD _ (by omega)] at x1
      have x2 := exact_eq (2 * m - 1) (e - 1) (by omega)
      rw [exactS_exD _ (by omega)] at x2
      have x4 := exact_eq (4 * m - 1) (e - 2) (by omega)
      rw [exactS_exD _ (by omega)] at x4
      have s2 := exD_small (m := 2 * m - 1) (by omega) (e := e - 1) (by omega)
      have s4 := exD_small (m := 4 * m - 1) (by omega) (e := e - 2) (by omega)
      rw [e1, w1, e2]
      refine Ev.bind x1 ?_
      refine Ev.bind x2 ?_
      refine Ev.congr (fun k => if_pos (by omega)) ?_
      have hpar : (Int.tmod (m : Int) 2 == 0) = decide (p % 2 = 0) := by
        rw [show (2 : Int) = ((2 : Nat) : Int) from rfl, tmodN]
        have hq : p % 2 = m % 2 := by
          obtain ⟨g1, _⟩ := fOf (ff wide) p
          rw [hmm] at g1
          obtain ⟨u, hu⟩ : ∃ u, ff wide = u + 1 := ⟨ff wide - 1, (Nat.sub_add_cancel (Nat.le_trans (by decide) (ff_two wide).1)).symm⟩
          rw [hu, Nat.pow_succ, ← Nat.mul_assoc] at g1
          generalize fE (u + 1) p * 2 ^ u = G at g1
          rw [g1]
          omega
        rw [hq, Bool.eq_iff_iff]
        simp
        omega
      rw [hpar, shl_one _ (Nat.le_trans (ff_lt wide) (by decide))]
      -- the two ways behind
      have way1 : m ≠ 2 ^ ff wide ∨ fE (ff wide) p = 0 → Ev (fun k => short_Shortest.j1 k (p : Int) (ff wide : Int) (-(ll wide : Int)) (ii wide : Int) (S (exD (2 * m - 1) (e - 1)).1) (exD (2 * m - 1) (e - 1)).2 (S (exD (2 * m + 1) (e - 1)).1) (exD (2 * m + 1) (e - 1)).2 (decide (p % 2 = 0))) (S (shortD wide p).1, (shortD wide p).2, 0) := fun h =>
        j1_ev (hsp _ (exD_form _ _) (by omega) (fun n x hx => hlo1 h n x hx)) hp0 hlt
      by_cases c3 : m = 2 ^ ff wide
      · refine Ev.congr (fun k => if_pos (by rw [c3])) ?_
        by_cases c4 : fE (ff wide) p = 0
        · rw [show decide (e > -(ll wide : Int)) = false from decide_eq_false (by omega)]
          refine Ev.step (fun k => by simp only [short_Shortest.j0]; rfl) ?_
          exact Ev.congr (fun k => if_neg (by decide)) (way1 (.inr c4))
        · rw [show decide (e > -(ll wide : Int)) = true from decide_eq_true (by omega)]
          refine Ev.step (fun k => by simp only [short_Shortest.j0]; rfl) ?_
          refine Ev.congr (fun k => if_pos (by simp)) ?_
          rw [e4, w2]
          refine Ev.bind x4 ?_
          exact j1_ev (hsp _ (exD_form _ _) (by omega) (fun n x hx => hlo2 c3 c4 n x hx)) hp0 hlt
      · refine Ev.congr (fun k => if_neg (fun h => c3 (Int.ofNat.inj h))) ?_
        refine Ev.step (fun k => by simp only [short_Shortest.j0]; rfl) ?_
        exact Ev.congr (fun k => if_neg (by decide)) (way1 (.inl c3))
end Go.Proofs.YtmeapdchnnpceaaDoor.Pure
end
section
namespace Go.Proofs.YtmeapdchnnpceaaDoor.Pure
open Go.RowKit Go.Proofs.YtmeapdchnnpceaaDoorW.PrintWords Go.Proofs.YtmeapdchnnpceaaDoor.Fn
set_option linter.unusedVariables false
set_option linter.unusedSimpArgs false
theorem rdS_five (wide : Bool) {l : List UInt8} {q : Int} (hf : InForm l q) (h5 : l.length ≤ 2000 ∧ -5000 ≤ q ∧ q ≤ 5000) : rdS wide (S l) q = ((rdX wide (dX wide (val l) (q - l.length)) : Int), 0) := by
  unfold rdS
  rw [normS_ok hf h5.1 h5.2, if_pos rfl]
  simp only [L_S]
theorem shortGo_step (wide : Bool) (p : Nat) (v : List UInt8 × Int) (d n : Nat) : shortGo wide p v (d + 1) n = (bestD wide p v n).getD (shortGo wide p v d (n + 1)) := by
  conv => lhs; unfold shortGo
  cases bestD wide p v n <;> rfl
end Go.Proofs.YtmeapdchnnpceaaDoor.Pure
end
section
namespace Go.Proofs.YtmeapdchnnpceaaDoor.Fn
open Go.RowKit Go.Proofs.YtmeapdchnnpceaaDoorW.PrintWords Go.Proofs.YtmeapdchnnpceaaDoorW.PrintLast Go.Proofs.YtmeapdchnnpceaaDoorW.PrintMore
attribute [local go_sem] min2_int min_two
set_option linter.unusedVariables false
set_option linter.unusedSimpArgs false
attribute [local go_sem high] eqA28
def platenlaw05_lives.f (k : Nat)  : Option (Bool) := (short_Read.f k (⟨#[49]⟩ : ByteArray) 0 64).bind fun bt302 => ((short_Shortest.f k 4591870180066957722 64).bind fun bt304 => ((short_Parts.f 4609434218613702656 64).bind fun bt308 => (if bt302.2 = 0 then (if bt304.2.2 = 0 then (if bt302.1 = 4591870180066957722 then (if (bt304.1.toList == ([49] : List UInt8) && (bt304.2.1 == 0)) = true then (if bt308.2.1 = 6755399441055744 then (if bt308.2.2.1 = (-52) then (some (bt308.2.2.2 == 0)) else (some false)) else (some false)) else (some false)) else (some false)) else (some false)) else (some false))))
set_option maxHeartbeats 8000000 in
set_option maxRecDepth 100000 in
theorem platenlaw05_lives.calls (k : Nat)  (r : Bool) (w : World) (h : platenlaw05_lives.f k  = some r) :
  Calls Tryd.prog 15 #[] w fun e w' => e = .returned (.bool r) ∧ Below w.heap.size w w' := by
 have hu28 := Tryd.underlying28
 have HB := Aside0.mk (Below.refl w.heap.size w)
 have H : ((short_Read.f k (⟨#[49]⟩ : ByteArray) 0 64).bind fun bt302 => ((short_Shortest.f k 4591870180066957722 64).bind fun bt304 => ((short_Parts.f 4609434218613702656 64).bind fun bt308 => (if bt302.2 = 0 then (if bt304.2.2 = 0 then (if bt302.1 = 4591870180066957722 then (if (bt304.1.toList == ([49] : List UInt8) && (bt304.2.1 == 0)) = true then (if bt308.2.1 = 6755399441055744 then (if bt308.2.2.1 = (-52) then (some (bt308.2.2.2 == 0)) else (some false)) else (some false)) else (some false)) else (some false)) else (some false)) else (some false))))) = some r := h
 clear h
 replace H := bs H
 obtain ⟨⟨t302, t303⟩, A1, H⟩ := H
 dsimp only at H
 replace H := bs H
 obtain ⟨⟨t304, t305, t306⟩, A2, H⟩ := H
 dsimp only at H
 replace H := bs H
 obtain ⟨⟨t308, t309, t310, t311⟩, A3, H⟩ := H
 dsimp only at H
 by_cases c4 : t303 = 0
 ·rw [if_pos c4] at H
  obtain ⟨c4b0, c4b1⟩ := eT c4
  clear c4
  by_cases c5 : t306 = 0
  ·rw [if_pos c5] at H
   obtain ⟨c5b0, c5b1⟩ := eT c5
   clear c5
   by_cases c6 : t302 = 4591870180066957722
   ·rw [if_pos c6] at H
    obtain ⟨c6b0, c6b1⟩ := eT c6
    clear c6
    by_cases c7 : (t304.toList == ([49] : List UInt8) && (t305 == 0)) = true
    ·rw [if_pos c7] at H
     have c7b0 : (t304.toList == ([49] : List UInt8) && (t305 == 0)) = true := c7
     (try (have c7b1 : decide (t304.toList = ([49] : List UInt8) && (t305 == 0)) = true := by simpa using c7))
     (try (have c7b2 : (t304.toList == ([49] : List UInt8) && (t305 == 0)) = true := by simpa using c7))
     clear c7
     by_cases c8 : t309 = 6755399441055744
     ·rw [if_pos c8] at H
      obtain ⟨c8b0, c8b1⟩ := eT c8
      clear c8
      by_cases c9 : t310 = (-52)
      ·rw [if_pos c9] at H
       obtain ⟨c9b0, c9b1⟩ := eT c9
       clear c9
       obtain rfl := Option.some.inj H
       go_enter Tryd.func15, Tryd.ntmps15
       go_wp2_with (first | ((with_reducible refine gate_callee (f := 16) rfl ?_); refine goesL_ (some 11) rfl rfl Tryd.func16 (by kernel_rfl) rfl #[.agg #[.string (⟨#[49]⟩ : ByteArray), .int .i64 0], .int .i64 64] rfl lz ?_; (with_reducible refine (short_Read.calls k (⟨#[49]⟩ : ByteArray) 0 64 t302 t303 _ A1.out).mono ?_); rintro e w10 ⟨rfl, hb⟩; refine ⟨_, rfl, ?_⟩; replace HB := bN bz hb; (try clear hb); (try clear hb2); (try clear hk); (try clear hi)) | ((with_reducible refine gate_callee (f := 18) rfl ?_); refine goesL_ (some 15) rfl rfl Tryd.func18 (by kernel_rfl) rfl #[.int .u64 4591870180066957722, .int .i64 64] rfl lz ?_; (with_reducible refine (short_Shortest.calls k 4591870180066957722 64 t304 t305 t306 _ A2.out).mono ?_); rintro e w11 ⟨rfl, hb⟩; refine ⟨_, rfl, ?_⟩; replace HB := bN bz hb; (try clear hb); (try clear hb2); (try clear hk); (try clear hi)) | ((with_reducible refine gate_dst (N := 3) rfl ?_); refine box_event rfl (N := 3) rfl (cs := #[.string (⟨#[]⟩ : ByteArray), .int .i64 0]) (t := 28) gz ?_; intro gb307 hg w12 hbox hb; have GW307 := gN bz hg; have GE307 := gN bz hg; have BK307 := Aside0.mk hbox; replace HB := bN bz hb; clear hb hbox hg; obtain ⟨hcz13_0, hcz13_1, hfz13_0, hfz13_1⟩ := cz2 (W := w12) BK307) | ((with_reducible refine gate_callee (f := 13) rfl ?_); refine goesL_ (some 19) rfl rfl Tryd.func13 (by kernel_rfl) rfl #[.int .u64 4609434218613702656, .int .i64 64] rfl lz ?_; (with_reducible refine (short_Parts.calls 4609434218613702656 64 t308 t309 t310 t311 _ A3.out).mono ?_); rintro e w14 ⟨rfl, hb⟩; refine ⟨_, rfl, ?_⟩; replace BK307 := kN (g := gb307) (cs := #[.string t304, .int .i64 t305]) hb bk; replace HB := bN bz hb; (try clear hb); (try clear hb2); (try clear hk); (try clear hi); obtain ⟨hcz15_0, hcz15_1, hfz15_0, hfz15_1⟩ := cz2 (W := w14) BK307))
       go_ret
       exact ⟨ez, bz⟩
      ·rw [if_neg c9] at H
       obtain ⟨c9b0, c9b1⟩ := eF c9
       obtain rfl := Option.some.inj H
       go_enter Tryd.func15, Tryd.ntmps15
       go_wp2_with (first | ((with_reducible refine gate_callee (f := 16) rfl ?_); refine goesL_ (some 11) rfl rfl Tryd.func16 (by kernel_rfl) rfl #[.agg #[.string (⟨#[49]⟩ : ByteArray), .int .i64 0], .int .i64 64] rfl lz ?_; (with_reducible refine (short_Read.calls k (⟨#[49]⟩ : ByteArray) 0 64 t302 t303 _ A1.out).mono ?_); rintro e w16 ⟨rfl, hb⟩; refine ⟨_, rfl, ?_⟩; replace HB := bN bz hb; (try clear hb); (try clear hb2); (try clear hk); (try clear hi)) | ((with_reducible refine gate_callee (f := 18) rfl ?_); refine goesL_ (some 15) rfl rfl Tryd.func18 (by kernel_rfl) rfl #[.int .u64 4591870180066957722, .int .i64 64] rfl lz ?_; (with_reducible refine (short_Shortest.calls k 4591870180066957722 64 t304 t305 t306 _ A2.out).mono ?_); rintro e w17 ⟨rfl, hb⟩; refine ⟨_, rfl, ?_⟩; replace HB := bN bz hb; (try clear hb); (try clear hb2); (try clear hk); (try clear hi)) | ((with_reducible refine gate_dst (N := 3) rfl ?_); refine box_event rfl (N := 3) rfl (cs := #[.string (⟨#[]⟩ : ByteArray), .int .i64 0]) (t := 28) gz ?_; intro gb307 hg w18 hbox hb; have GW307 := gN bz hg; have GE307 := gN bz hg; have BK307 := Aside0.mk hbox; replace HB := bN bz hb; clear hb hbox hg; obtain ⟨hcz19_0, hcz19_1, hfz19_0, hfz19_1⟩ := cz2 (W := w18) BK307) | ((with_reducible refine gate_callee (f := 13) rfl ?_); refine goesL_ (some 19) rfl rfl Tryd.func13 (by kernel_rfl) rfl #[.int .u64 4609434218613702656, .int .i64 64] rfl lz ?_; (with_reducible refine (short_Parts.calls 4609434218613702656 64 t308 t309 t310 t311 _ A3.out).mono ?_); rintro e w20 ⟨rfl, hb⟩; refine ⟨_, rfl, ?_⟩; replace BK307 := kN (g := gb307) (cs := #[.string t304, .int .i64 t305]) hb bk; replace HB := bN bz hb; (try clear hb); (try clear hb2); (try clear hk); (try clear hi); obtain ⟨hcz21_0, hcz21_1, hfz21_0, hfz21_1⟩ := cz2 (W := w20) BK307))
       go_ret
       exact ⟨ez, bz⟩
     ·rw [if_neg c8] at H
      obtain ⟨c8b0, c8b1⟩ := eF c8
      obtain rfl := Option.some.inj H
      go_enter Tryd.func15, Tryd.ntmps15
      go_wp2_with (first | ((with_reducible refine gate_callee (f := 16) rfl ?_); refine goesL_ (some 11) rfl rfl Tryd.func16 (by kernel_rfl) rfl #[.agg #[.string (⟨#[49]⟩ : ByteArray), .int .i64 0], .int .i64 64] rfl lz ?_; (with_reducible refine (short_Read.calls k (⟨#[49]⟩ : ByteArray) 0 64 t302 t303 _ A1.out).mono ?_); rintro e w22 ⟨rfl, hb⟩; refine ⟨_, rfl, ?_⟩; replace HB := bN bz hb; (try clear hb); (try clear hb2); (try clear hk); (try clear hi)) | ((with_reducible refine gate_callee (f := 18) rfl ?_); refine goesL_ (some 15) rfl rfl Tryd.func18 (by kernel_rfl) rfl #[.int .u64 4591870180066957722, .int .i64 64] rfl lz ?_; (with_reducible refine (short_Shortest.calls k 4591870180066957722 64 t304 t305 t306 _ A2.out).mono ?_); rintro e w23 ⟨rfl, hb⟩; refine ⟨_, rfl, ?_⟩; replace HB := bN bz hb; (try clear hb); (try clear hb2); (try clear hk); (try clear hi)) | ((with_reducible refine gate_dst (N := 3) rfl ?_); refine box_event rfl (N := 3) rfl (cs := #[.string (⟨#[]⟩ : ByteArray), .int .i64 0]) (t := 28) gz ?_; intro gb307 hg w24 hbox hb; have GW307 := gN bz hg; have GE307 := gN bz hg; have BK307 := Aside0.mk hbox; replace HB := bN bz hb; clear hb hbox hg; obtain ⟨hcz25_0, hcz25_1, hfz25_0, hfz25_1⟩ := cz2 (W := w24) BK307) | ((with_reducible refine gate_callee (f := 13) rfl ?_); refine goesL_ (some 19) rfl rfl Tryd.func13 (by kernel_rfl) rfl #[.int .u64 4609434218613702656, .int .i64 64] rfl lz ?_; (with_reducible refine (short_Parts.calls 4609434218613702656 64 t308 t309 t310 t311 _ A3.out).mono ?_); rintro e w26 ⟨rfl, hb⟩; refine ⟨_, rfl, ?_⟩; replace BK307 := kN (g := gb307) (cs := #[.string t304, .int .i64 t305]) hb bk; replace HB := bN bz hb; (try clear hb); (try clear hb2); (try clear hk); (try clear hi); obtain ⟨hcz27_0, hcz27_1, hfz27_0, hfz27_1⟩ := cz2 (W := w26) BK307))
      go_ret
      exact ⟨ez, bz⟩
    ·rw [if_neg c7] at H
     have c7b0 : (t304.toList == ([49] : List UInt8) && (t305 == 0)) = false := by simpa using c7
     (try (have c7b1 : decide (t304.toList = ([49] : List UInt8) && (t305 == 0)) = false := by simpa using c7))
     (try (have c7b2 : (t304.toList == ([49] : List UInt8) && (t305 == 0)) = false := by simpa using c7))
     (try (have c7b3 : ¬ (t304.toList = ([49] : List UInt8) && (t305 == 0)) := by simpa using c7))
     clear c7
     obtain rfl := Option.some.inj H
     go_enter Tryd.func15, Tryd.ntmps15
     go_wp2_with (first | ((with_reducible refine gate_callee (f := 16) rfl ?_); refine goesL_ (some 11) rfl rfl Tryd.func16 (by kernel_rfl) rfl #[.agg #[.string (⟨#[49]⟩ : ByteArray), .int .i64 0], .int .i64 64] rfl lz ?_; (with_reducible refine (short_Read.calls k (⟨#[49]⟩ : ByteArray) 0 64 t302 t303 _ A1.out).mono ?_); rintro e w28 ⟨rfl, hb⟩; refine ⟨_, rfl, ?_⟩; replace HB := bN bz hb; (try clear hb); (try clear hb2); (try clear hk); (try clear hi)) | ((with_reducible refine gate_callee (f := 18) rfl ?_); refine goesL_ (some 15) rfl rfl Tryd.func18 (by kernel_rfl) rfl #[.int .u64 4591870180066957722, .int .i64 64] rfl lz ?_; (with_reducible refine (short_Shortest.calls k 4591870180066957722 64 t304 t305 t306 _ A2.out).mono ?_); rintro e w29 ⟨rfl, hb⟩; refine ⟨_, rfl, ?_⟩; replace HB := bN bz hb; (try clear hb); (try clear hb2); (try clear hk); (try clear hi)) | ((with_reducible refine gate_dst (N := 3) rfl ?_); refine box_event rfl (N := 3) rfl (cs := #[.string (⟨#[]⟩ : ByteArray), .int .i64 0]) (t := 28) gz ?_; intro gb307 hg w30 hbox hb; have GW307 := gN bz hg; have GE307 := gN bz hg; have BK307 := Aside0.mk hbox; replace HB := bN bz hb; clear hb hbox hg; obtain ⟨hcz31_0, hcz31_1, hfz31_0, hfz31_1⟩ := cz2 (W := w30) BK307) | ((with_reducible refine gate_callee (f := 13) rfl ?_); refine goesL_ (some 19) rfl rfl Tryd.func13 (by kernel_rfl) rfl #[.int .u64 4609434218613702656, .int .i64 64] rfl lz ?_; (with_reducible refine (short_Parts.calls 4609434218613702656 64 t308 t309 t310 t311 _ A3.out).mono ?_); rintro e w32 ⟨rfl, hb⟩; refine ⟨_, rfl, ?_⟩; replace BK307 := kN (g := gb307) (cs := #[.string t304, .int .i64 t305]) hb bk; replace HB := bN bz hb; (try clear hb); (try clear hb2); (try clear hk); (try clear hi); obtain ⟨hcz33_0, hcz33_1, hfz33_0, hfz33_1⟩ := cz2 (W := w32) BK307))
     go_ret
     exact ⟨ez, bz⟩
   ·rw [if_neg c6] at H
    obtain ⟨c6b0, c6b1⟩ := eF c6
    obtain rfl := Option.some.inj H
    go_enter Tryd.func15, Tryd.ntmps15
    go_wp2_with (first | ((with_reducible refine gate_callee (f := 16) rfl ?_); refine goesL_ (some 11) rfl rfl Tryd.func16 (by kernel_rfl) rfl #[.agg #[.string (⟨#[49]⟩ : ByteArray), .int .i64 0], .int .i64 64] rfl lz ?_; (with_reducible refine (short_Read.calls k (⟨#[49]⟩ : ByteArray) 0 64 t302 t303 _ A1.out).mono ?_); rintro e w34 ⟨rfl, hb⟩; refine ⟨_, rfl, ?_⟩; replace HB := bN bz hb; (try clear hb); (try clear hb2); (try clear hk); (try clear hi)) | ((with_reducible refine gate_callee (f := 18) rfl ?_); refine goesL_ (some 15) rfl rfl Tryd.func18 (by kernel_rfl) rfl #[.int .u64 4591870180066957722, .int .i64 64] rfl lz ?_; (with_reducible refine (short_Shortest.calls k 4591870180066957722 64 t304 t305 t306 _ A2.out).mono ?_); rintro e w35 ⟨rfl, hb⟩; refine ⟨_, rfl, ?_⟩; replace HB := bN bz hb; (try clear hb); (try clear hb2); (try clear hk); (try clear hi)) | ((with_reducible refine gate_dst (N := 3) rfl ?_); refine box_event rfl (N := 3) rfl (cs := #[.string (⟨#[]⟩ : ByteArray), .int .i64 0]) (t := 28) gz ?_; intro gb307 hg w36 hbox hb; have GW307 := gN bz hg; have GE307 := gN bz hg; have BK307 := Aside0.mk hbox; replace HB := bN bz hb; clear hb hbox hg; obtain ⟨hcz37_0, hcz37_1, hfz37_0, hfz37_1⟩ := cz2 (W := w36) BK307) | ((with_reducible refine gate_callee (f := 13) rfl ?_); refine goesL_ (some 19) rfl rfl Tryd.func13 (by kernel_rfl) rfl #[.int .u64 4609434218613702656, .int .i64 64] rfl lz ?_; (with_reducible refine (short_Parts.calls 4609434218613702656 64 t308 t309 t310 t311 _ A3.out).mono ?_); rintro e w38 ⟨rfl, hb⟩; refine ⟨_, rfl, ?_⟩; replace BK307 := kN (g := gb307) (cs := #[.string t304, .int .i64 t305]) hb bk; replace HB := bN bz hb; (try clear hb); (try clear hb2); (try clear hk); (try clear hi)))
    go_ret
    exact ⟨ez, bz⟩
  ·rw [if_neg c5] at H
   obtain ⟨c5b0, c5b1⟩ := eF c5
   obtain rfl := Option.some.inj H
   go_enter Tryd.func15, Tryd.ntmps15
   go_wp2_with (first | ((with_reducible refine gate_callee (f := 16) rfl ?_); refine goesL_ (some 11) rfl rfl Tryd.func16 (by kernel_rfl) rfl #[.agg #[.string (⟨#[49]⟩ : ByteArray), .int .i64 0], .int .i64 64] rfl lz ?_; (with_reducible refine (short_Read.calls k (⟨#[49]⟩ : ByteArray) 0 64 t302 t303 _ A1.out).mono ?_); rintro e w39 ⟨rfl, hb⟩; refine ⟨_, rfl, ?_⟩; replace HB := bN bz hb; (try clear hb); (try clear hb2); (try clear hk); (try clear hi)) | ((with_reducible refine gate_callee (f := 18) rfl ?_); refine goesL_ (some 15) rfl rfl Tryd.func18 (by kernel_rfl) rfl #[.int .u64 4591870180066957722, .int .i64 64] rfl lz ?_; (with_reducible refine (short_Shortest.calls k 4591870180066957722 64 t304 t305 t306 _ A2.out).mono ?_); rintro e w40 ⟨rfl, hb⟩; refine ⟨_, rfl, ?_⟩; replace HB := bN bz hb; (try clear hb); (try clear hb2); (try clear hk); (try clear hi)) | ((with_reducible refine gate_dst (N := 3) rfl ?_); refine box_event rfl (N := 3) rfl (cs := #[.string (⟨#[]⟩ : ByteArray), .int .i64 0]) (t := 28) gz ?_; intro gb307 hg w41 hbox hb; have GW307 := gN bz hg; have GE307 := gN bz hg; have BK307 := Aside0.mk hbox; replace HB := bN bz hb; clear hb hbox hg; obtain ⟨hcz42_0, hcz42_1, hfz42_0, hfz42_1⟩ := cz2 (W := w41) BK307) | ((with_reducible refine gate_callee (f := 13) rfl ?_); refine goesL_ (some 19) rfl rfl Tryd.func13 (by kernel_rfl) rfl #[.int .u64 4609434218613702656, .int .i64 64] rfl lz ?_; (with_reducible refine (short_Parts.calls 4609434218613702656 64 t308 t309 t310 t311 _ A3.out).mono ?_); rintro e w43 ⟨rfl, hb⟩; refine ⟨_, rfl, ?_⟩; replace BK307 := kN (g := gb307) (cs := #[.string t304, .int .i64 t305]) hb bk; replace HB := bN bz hb; (try clear hb); (try clear hb2); (try clear hk); (try clear hi)))
   go_ret
   exact ⟨ez, bz⟩
 ·rw [if_neg c4] at H
  obtain ⟨c4b0, c4b1⟩ := eF c4
  obtain rfl := Option.some.inj H
  go_enter Tryd.func15, Tryd.ntmps15
  go_wp2_with (first | ((with_reducible refine gate_callee (f := 16) rfl ?_); refine goesL_ (some 11) rfl rfl Tryd.func16 (by kernel_rfl) rfl #[.agg #[.string (⟨#[49]⟩ : ByteArray), .int .i64 0], .int .i64 64] rfl lz ?_; (with_reducible refine (short_Read.calls k (⟨#[49]⟩ : ByteArray) 0 64 t302 t303 _ A1.out).mono ?_); rintro e w44 ⟨rfl, hb⟩; refine ⟨_, rfl, ?_⟩; replace HB := bN bz hb; (try clear hb); (try clear hb2); (try clear hk); (try clear hi)) | ((with_reducible refine gate_callee (f := 18) rfl ?_); refine goesL_ (some 15) rfl rfl Tryd.func18 (by kernel_rfl) rfl #[.int .u64 4591870180066957722, .int .i64 64] rfl lz ?_; (with_reducible refine (short_Shortest.calls k 4591870180066957722 64 t304 t305 t306 _ A2.out).mono ?_); rintro e w45 ⟨rfl, hb⟩; refine ⟨_, rfl, ?_⟩; replace HB := bN bz hb; (try clear hb); (try clear hb2); (try clear hk); (try clear hi)) | ((with_reducible refine gate_dst (N := 3) rfl ?_); refine box_event rfl (N := 3) rfl (cs := #[.string (⟨#[]⟩ : ByteArray), .int .i64 0]) (t := 28) gz ?_; intro gb307 hg w46 hbox hb; have GW307 := gN bz hg; have GE307 := gN bz hg; have BK307 := Aside0.mk hbox; replace HB := bN bz hb; clear hb hbox hg; obtain ⟨hcz47_0, hcz47_1, hfz47_0, hfz47_1⟩ := cz2 (W := w46) BK307) | ((with_reducible refine gate_callee (f := 13) rfl ?_); refine goesL_ (some 19) rfl rfl Tryd.func13 (by kernel_rfl) rfl #[.int .u64 4609434218613702656, .int .i64 64] rfl lz ?_; (with_reducible refine (short_Parts.calls 4609434218613702656 64 t308 t309 t310 t311 _ A3.out).mono ?_); rintro e w48 ⟨rfl, hb⟩; refine ⟨_, rfl, ?_⟩; replace BK307 := kN (g := gb307) (cs := #[.string t304, .int .i64 t305]) hb bk; replace HB := bN bz hb; (try clear hb); (try clear hb2); (try clear hk); (try clear hi)))
  go_ret
  exact ⟨ez, bz⟩
end Go.Proofs.YtmeapdchnnpceaaDoor.Fn
end
section
namespace Go.Proofs.YtmeapdchnnpceaaDoor.Pure
open Go.RowKit Go.Proofs.YtmeapdchnnpceaaDoorW.PrintWords Go.Proofs.YtmeapdchnnpceaaDoor.Fn
set_option linter.unusedVariables false
set_option linter.unusedSimpArgs false
theorem tenth_W : ∃ p, p + 1 = 4591870180066957722 ∧ p < 9218868437227405312 ∧ fW 52 p * 20 ≤ 2 ^ 1075 ∧ 2 ^ 1075 < fW 52 (p + 1) * 20 ∧ (fW 52 p + fW 52 (p + 1)) * 10 < 2 ^ 1075 := ⟨4591870180066957721, by decide +kernel⟩
theorem tenth_X (wide : Bool) : dX wide 1 (-1) * 10 = CC * 2 ^ uu wide := by
  have hv := vv_eq
  obtain ⟨u, hu⟩ : ∃ u, vv = u + 1 := ⟨vv - 1, by omega⟩
  unfold dX CC
  rw [hu, show (-1 + ((u + 1 : Nat) : Int)).toNat = u by omega, Nat.pow_succ, Nat.one_mul]
  rw [Nat.mul_assoc, Nat.mul_comm (2 ^ uu wide), ← Nat.mul_assoc]
theorem times10 {a X C L : Nat} (hX : X * 10 = C * L) (hC : 0 < C) : (a * (2 * C) ≤ X ↔ a * 20 ≤ L) ∧ (X < a * (2 * C) ↔ L < a * 20) ∧ (a * C < X ↔ a * 10 < L) := by
  have e1 : a * (2 * C) * 10 = C * (a * 20) := by
    rw [show (20 : Nat) = 2 * 10 from rfl]
    simp only [Nat.mul_assoc, Nat.mul_comm, Nat.mul_left_comm]
  have e2 : a * C * 10 = C * (a * 10) := by simp only [Nat.mul_assoc, Nat.mul_comm, Nat.mul_left_comm]
  refine ⟨?_, ?_, ?_⟩
  · rw [← Nat.mul_le_mul_right_iff (show 0 < 10 by decide), e1, hX, Nat.mul_le_mul_left_iff hC]
  · rw [← Nat.mul_lt_mul_right (show 0 < 10 by decide), e1, hX, Nat.mul_lt_mul_left hC]
  · rw [← Nat.mul_lt_mul_right (show 0 < 10 by decide), e2, hX, Nat.mul_lt_mul_left hC]
theorem tenth_read : rdX true (dX true 1 (-1)) = 4591870180066957722 := by
  obtain ⟨p, hp, hi, w1, w2, w3⟩ := tenth_W
  have hX := tenth_X true
  have hu : uu true = 1075 := rfl
  have hf : ff true = 52 := rfl
  have hii : ii true = 9218868437227405312 := rfl
  obtain ⟨L, hL⟩ : ∃ L, 2 ^ 1075 = L := ⟨_, rfl⟩
  rw [hu, hL] at hX
  rw [hL] at w1 w2 w3
  have hfl : fFloor (ff true) (ii true) (dX true 1 (-1)) (2 * CC) p := by
    rw [hf, hii]
    exact ⟨Nat.le_of_lt hi, (times10 hX CC_pos).1.2 w1, fun _ => (times10 hX CC_pos).2.1.2 w2⟩
  rw [rd_at true hfl, if_neg (by omega), hf, if_pos (.inl ((times10 hX CC_pos).2.2.2 w3))]
  exact hp
def tenthL : List UInt8 := [49,48,48,48,48,48,48,48,48,48,48,48,48,48,48,48,48,53,53,53,49,49,49,53,49,50,51,49,50,53,55,56,50,55,48,50,49,49,56,49,53,56,51,52,48,52,53,52,49,48,49,53,54,50,53]
theorem tenth_v : exV true 4591870180066957722 = (tenthL, 0) := by decide +kernel
theorem tenth_short : shortD true 4591870180066957722 = ([49], 0) := by
  unfold shortD
  rw [tenth_v]
  have hl : tenthL.length = 54 + 1 := by decide
  show shortGo true _ (tenthL, 0) tenthL.length 1 = _
  have hn : nearU (tenthL, 0) 1 = 1 := by decide +kernel
  have hE : cE (tenthL, 0) 1 = -1 := by unfold cE; rfl
  have hb : bestD true 4591870180066957722 (tenthL, 0) 1 = some ([49], 0) := by
    unfold bestD
    rw [if_neg (by rw [hl]; decide), hn, hE, if_pos (show isP true 4591870180066957722 1 (-1) from tenth_read)]
    rfl
  rw [hl, shortGo_step, hb]
  rfl
theorem short_tenth : shortS true 4591870180066957722 = (S [49], 0, 0) := by
  have hb : bareN true 4591870180066957722 = 4591870180066957722 := by decide
  unfold shortS
  rw [hb, if_neg (by decide), if_neg (by decide), tenth_short]
theorem read_tenth : rdS true (S [49]) 0 = (4591870180066957722, 0) := by
  have h1 : InForm ([49] : List UInt8) 0 := ⟨allD_one, fun c t h => by
    injection h with h1 h2
    rw [← h1]; decide, rfl, fun h => by cases h⟩
  rw [rdS_five true h1 (by decide)]
  have : dX true (val [49]) (0 - (([49] : List UInt8).length : Int)) = dX true 1 (-1) := by rw [val_one]; rfl
  rw [this, tenth_read]
  rfl
theorem parts_ex : partsS true 4609434218613702656 = (false, 6755399441055744, -52, 0) := by decide +kernel
theorem lives5 : Ev (fun k => platenlaw05_lives.f k) true := by
  have h1 := read_eq true (S [49]) 0
  rw [read_tenth] at h1
  have h2 := shortest_eq true 4591870180066957722 (by decide)
  rw [short_tenth] at h2
  have h3 := parts_eq true 4609434218613702656 (by decide)
  rw [parts_ex] at h3
  unfold platenlaw05_lives.f
  refine Ev.bind (g := fun k => short_Read.f k (⟨#[49]⟩ : ByteArray) 0 64) h1 ?_
  refine Ev.bind (g := fun k => short_Shortest.f k 4591870180066957722 64) h2 ?_
  refine Ev.congr (fun k => ?_) (Ev.now _)
  rw [show short_Parts.f 4609434218613702656 64 = some (false, 6755399441055744, -52, 0) from h3]
  simp [toList_L, L_S]
theorem livesEnd : Ev (fun k => (platenlaw05_lives.f k).bind fun t => some t) true := Ev.bind lives5 (Ev.now _)
theorem wf_u64 {a : Int} (h : (Lit.int .u64 a).wf = true) : ∃ n : Nat, a = n ∧ n < 18446744073709551616 := by
  have h2 : 0 ≤ a ∧ a < 18446744073709551616 := by
    simp [Lit.wf, IntKind.min, IntKind.max, IntKind.bits, IntKind.signed] at h
    omega
  exact ⟨a.toNat, by omega, by omega⟩
end Go.Proofs.YtmeapdchnnpceaaDoor.Pure
end
section
namespace Go.Proofs.YtmeapdchnnpceaaDoor.Pure
open Go.RowKit Go.Proofs.YtmeapdchnnpceaaDoorW.PrintWords Go.Proofs.YtmeapdchnnpceaaDoor.Fn
set_option linter.unusedVariables false
set_option linter.unusedSimpArgs false
theorem exV_X (wide : Bool) {p : Nat} (hp : p < ii wide) : dX wide (val (exV wide p).1) ((exV wide p).2 - (exV wide p).1.length) = fW (ff wide) p * (2 * CC) := by
  have hv := exV_val wide hp
  have h1 := hv.len
  have h2 := hv.lo
  have h3 := vv_eq
  have hc := cmp_pattern wide (Nat.le_of_lt hp) (l := (exV wide p).1) (q := (exV wide p).2) hv.form (by omega)
  have h0 : cmpD (exV wide p).1 (exV wide p).2 (exV wide p).1 (exV wide p).2 = 0 := by
    unfold cmpD
    exact cmpN_self _
  have hc2 : cmpD (exV wide p).1 (exV wide p).2 (exV wide p).1 (exV wide p).2 = cmpN (fW (ff wide) p * (2 * CC)) (dX wide (val (exV wide p).1) ((exV wide p).2 - (exV wide p).1.length)) := hc
  rw [h0] at hc2
  exact ((cmpN_zero _ _).1 hc2.symm).symm
theorem rd_exact (wide : Bool) {p : Nat} (hp : p < ii wide) : rdX wide (fW (ff wide) p * (2 * CC)) = p := by
  have hC := CC_pos
  have m := mid_between (fW_lt (f := ff wide) (Nat.lt_succ_self p)) hC
  simp only [Nat.succ_eq_add_one] at m
  have hfl : fFloor (ff wide) (ii wide) (fW (ff wide) p * (2 * CC)) (2 * CC) p := ⟨Nat.le_of_lt hp, Nat.le_refl _, fun _ => Nat.lt_trans m.1 m.2⟩
  rw [rd_at wide hfl, if_neg (Nat.ne_of_lt hp), if_neg]
  rintro (h | h)
  · exact Nat.lt_asymm h m.1
  · exact absurd h.1 (Nat.ne_of_lt m.1)
theorem read_exact (wide : Bool) {p : Nat} (hp : p < ii wide) : rdS wide (S (exV wide p).1) (exV wide p).2 = ((p : Int), 0) := by
  have hv := exV_val wide hp
  rw [rdS_five wide hv.form hv.five, exV_X wide hp, rd_exact wide hp]
end Go.Proofs.YtmeapdchnnpceaaDoor.Pure
end
section
namespace Go.Proofs.YtmeapdchnnpceaaDoor.Pure
open Go.RowKit Go.Proofs.YtmeapdchnnpceaaDoorW.PrintWords Go.Proofs.YtmeapdchnnpceaaDoor.Fn
set_option linter.unusedVariables false
set_option linter.unusedSimpArgs false
theorem read_zero (wide : Bool) : rdS wide (⟨#[]⟩ : ByteArray) 0 = (0, 0) := by
  have h := exV_val wide (p := 0) (by cases wide <;> decide)
  have h2 := read_exact wide (p := 0) (by cases wide <;> decide)
  have e : exV wide 0 = ([], 0) := by
    unfold exV exD
    rw [show fM (ff wide) 0 = 0 by cases wide <;> rfl, Nat.zero_mul]
    rfl
  rw [e] at h2
  exact h2
end Go.Proofs.YtmeapdchnnpceaaDoor.Pure
end
section
namespace Go.Proofs.YtmeapdchnnpceaaDoor.Fn
open Go.RowKit Go.Proofs.YtmeapdchnnpceaaDoorW.PrintWords Go.Proofs.YtmeapdchnnpceaaDoorW.PrintLast Go.Proofs.YtmeapdchnnpceaaDoorW.PrintMore
attribute [local go_sem] min2_int min_two
set_option linter.unusedVariables false
set_option linter.unusedSimpArgs false
attribute [local go_sem high] eqA28
def platenlaw05_ShortRefuses.j0 : Nat → Int → Int → Int → Int → Int → Bool → ByteArray → Int → Option (Bool)
 | 0, _, _, _, _, _, _, _, _ => none
 | k + 1, x6, x7, x8, x10, x12, x38, x653000, x653001 => if x38 = true then (if x8 = 3 then (if x6 = 0 then (if x7 = 0 then (if x10 = 1 then (if x12 = 1 then (if (x653000.toList == ([] : List UInt8) && (x653001 == 0)) = true then ((platenlaw05_lives.f k).bind fun t655 => (some t655)) else (some false)) else (some false)) else (some false)) else (some false)) else (some false)) else (some false)) else (if x8 = 0 then (if x10 = 0 then (if x12 = 0 then ((platenlaw05_lives.f k).bind fun t656 => (some t656)) else (some false)) else (some false)) else (if x6 = 0 then (if x7 = 0 then (if x10 = 1 then (if (x653000.toList == ([] : List UInt8) && (x653001 == 0)) = true then (if x12 = 0 then ((platenlaw05_lives.f k).bind fun t657 => (some t657)) else (some false)) else (some false)) else (some false)) else (some false)) else (some false)))
def platenlaw05_ShortRefuses.f (k : Nat) (a0 : Int) (a1 : Int) : Option (Bool) := (short_Parts.f a0 a1).bind fun bt645 => ((short_Shortest.f k a0 a1).bind fun bt649 => ((short_Read.f k (⟨#[]⟩ : ByteArray) 0 a1).bind fun bt653 => (if a1 = 32 then (platenlaw05_ShortRefuses.j0 k bt645.2.1 bt645.2.2.1 bt645.2.2.2 bt649.2.2 bt653.2 false bt649.1 bt649.2.1) else (platenlaw05_ShortRefuses.j0 k bt645.2.1 bt645.2.2.1 bt645.2.2.2 bt649.2.2 bt653.2 (a1 != 64) bt649.1 bt649.2.1))))
set_option maxHeartbeats 8000000 in
set_option maxRecDepth 100000 in
theorem platenlaw05_ShortRefuses.calls (k : Nat) (a0 : Int) (a1 : Int) (r : Bool) (w : World) (h : platenlaw05_ShortRefuses.f k a0 a1 = some r) :
  Calls Tryd.prog 12 #[.int .u64 a0, .int .i64 a1] w fun e w' => e = .returned (.bool r) ∧ Below w.heap.size w w' := by
 have hu28 := Tryd.underlying28
 have HB := Aside0.mk (Below.refl w.heap.size w)
 have H : ((short_Parts.f a0 a1).bind fun bt645 => ((short_Shortest.f k a0 a1).bind fun bt649 => ((short_Read.f k (⟨#[]⟩ : ByteArray) 0 a1).bind fun bt653 => (if a1 = 32 then (platenlaw05_ShortRefuses.j0 k bt645.2.1 bt645.2.2.1 bt645.2.2.2 bt649.2.2 bt653.2 false bt649.1 bt649.2.1) else (platenlaw05_ShortRefuses.j0 k bt645.2.1 bt645.2.2.1 bt645.2.2.2 bt649.2.2 bt653.2 (a1 != 64) bt649.1 bt649.2.1))))) = some r := h
 clear h
 replace H := bs H
 obtain ⟨⟨t645, t646, t647, t648⟩, A3, H⟩ := H
 dsimp only at H
 replace H := bs H
 obtain ⟨⟨t649, t650, t651⟩, A4, H⟩ := H
 dsimp only at H
 replace H := bs H
 obtain ⟨⟨t653, t654⟩, A5, H⟩ := H
 dsimp only at H
 have HC6 := Aside0.mk H
 clear H
 go_enter Tryd.func12, Tryd.ntmps12
 go_upto_region 4 with (first | ((with_reducible refine gate_callee (f := 13) rfl ?_); refine goesL_ (some 16) rfl rfl Tryd.func13 (by kernel_rfl) rfl #[.int .u64 a0, .int .i64 a1] rfl lz ?_; (with_reducible refine (short_Parts.calls a0 a1 t645 t646 t647 t648 _ A3.out).mono ?_); rintro e w7 ⟨rfl, hb⟩; refine ⟨_, rfl, ?_⟩; replace HB := bN bz hb; (try clear hb); (try clear hb2); (try clear hk); (try clear hi)) | ((with_reducible refine gate_callee (f := 18) rfl ?_); refine goesL_ (some 24) rfl rfl Tryd.func18 (by kernel_rfl) rfl #[.int .u64 a0, .int .i64 a1] rfl lz ?_; (with_reducible refine (short_Shortest.calls k a0 a1 t649 t650 t651 _ A4.out).mono ?_); rintro e w8 ⟨rfl, hb⟩; refine ⟨_, rfl, ?_⟩; replace HB := bN bz hb; (try clear hb); (try clear hb2); (try clear hk); (try clear hi)) | ((with_reducible refine gate_dst (N := 9) rfl ?_); refine box_event rfl (N := 9) rfl (cs := #[.string (⟨#[]⟩ : ByteArray), .int .i64 0]) (t := 28) gz ?_; intro gb652 hg w9 hbox hb; have GE652 := gN bz hg; have BK652 := Aside0.mk hbox; replace HB := bN bz hb; clear hb hbox hg; obtain ⟨hcz10_0, hcz10_1, hfz10_0, hfz10_1⟩ := cz2 (W := w9) BK652) | ((with_reducible refine gate_callee (f := 16) rfl ?_); refine goesL_ (some 30) rfl rfl Tryd.func16 (by kernel_rfl) rfl #[.agg #[.string (⟨#[]⟩ : ByteArray), .int .i64 0], .int .i64 a1] rfl lz ?_; (with_reducible refine (short_Read.calls k (⟨#[]⟩ : ByteArray) 0 a1 t653 t654 _ A5.out).mono ?_); rintro e w11 ⟨rfl, hb⟩; refine ⟨_, rfl, ?_⟩; replace BK652 := kN (g := gb652) (cs := #[.string t649, .int .i64 t650]) hb bk; replace HB := bN bz hb; (try clear hb); (try clear hb2); (try clear hk); (try clear hi)))
 (try simp only [Act.put, List.setIfInBounds_toArray, List.set_cons_zero, List.set_cons_succ])
 go_cut [38] (fun v38 wc => ∃ (kq : Nat) (x38_5 : Bool), v38 = .bool x38_5 ∧ Aside0 (platenlaw05_ShortRefuses.j0 kq t646 t647 t648 t651 t654 x38_5 t649 t650 = some r) ∧ Aside0 (kq ≤ k) ∧ Aside0 (wc.heap[gb652]? = some (.cells #[.string t649, .int .i64 t650] 28 (0, 0))) ∧ Aside0 (Below w.heap.size w wc))
 case first =>
  have H := HC6.out
  clear HC6
  by_cases c12 : a1 = 32
  ·rw [if_pos c12] at H
   obtain ⟨c12b0, c12b1⟩ := eT c12
   clear c12
   try first | rw [c12b0] | rw [c12b1]
   have H' := Aside0.mk H
   clear H
   go_wp2
   go_meet
   case rel => exact ⟨_, (false), rz, H', ⟨by first | omega | exact Nat.le_refl _⟩, ⟨bk⟩, ⟨bz⟩⟩
  ·rw [if_neg c12] at H
   obtain ⟨c12b0, c12b1⟩ := eF c12
   try first | rw [c12b0] | rw [c12b1]
   have H' := Aside0.mk H
   clear H
   go_wp2
   go_meet
   case rel => exact ⟨_, ((a1 != 64)), rz, H', ⟨by first | omega | exact Nat.le_refl _⟩, ⟨bk⟩, ⟨bz⟩⟩
 case rest =>
  clear HC6
  try clear c12
  try clear c12b0
  try clear c12b1
  try clear hcz10_0 hcz10_1 hfz10_0 hfz10_1
  obtain ⟨kq, x38_5, rfl, HA, HJ5, BK652, HB⟩ := hcut
  cases kq with
  | zero => exact absurd HA.out (by simp [platenlaw05_ShortRefuses.j0])
  | succ kj5 =>
   have H := HA.out
   clear HA
   simp only [platenlaw05_ShortRefuses.j0] at H
   by_cases c13 : x38_5 = true
   ·subst c13
    replace H := hT H
    by_cases c14 : t648 = 3
    ·rw [if_pos c14] at H
     obtain ⟨c14b0, c14b1⟩ := eT c14
     clear c14
     by_cases c15 : t646 = 0
     ·rw [if_pos c15] at H
      obtain ⟨c15b0, c15b1⟩ := eT c15
      clear c15
      by_cases c16 : t647 = 0
      ·rw [if_pos c16] at H
       obtain ⟨c16b0, c16b1⟩ := eT c16
       clear c16
       by_cases c17 : t651 = 1
       ·rw [if_pos c17] at H
        obtain ⟨c17b0, c17b1⟩ := eT c17
        clear c17
        by_cases c18 : t654 = 1
        ·rw [if_pos c18] at H
         obtain ⟨c18b0, c18b1⟩ := eT c18
         clear c18
         by_cases c19 : (t649.toList == ([] : List UInt8) && (t650 == 0)) = true
         ·rw [if_pos c19] at H
          have c19b0 : (t649.toList == ([] : List UInt8) && (t650 == 0)) = true := c19
          have c19e : (t649.toList = [] ∧ t650 = 0) = True := eq_true (by simpa using c19b0)
          (try (have c19b1 : decide (t649.toList = ([] : List UInt8) && (t650 == 0)) = true := by simpa using c19))
          (try (have c19b2 : (t649.toList == ([] : List UInt8) && (t650 == 0)) = true := by simpa using c19))
          clear c19
          replace H := bs H
          obtain ⟨t655, A20, H⟩ := H
          obtain rfl := Option.some.inj H
          obtain ⟨hcz21_0, hcz21_1, hfz21_0, hfz21_1⟩ := cz2 (W := wc) BK652
          go_wp2_with (first | (go_at_call 15; (with_reducible refine (platenlaw05_lives.calls kj5  t655 _ A20.out).mono ?_); rintro e w22 ⟨rfl, hb⟩; replace BK652 := kN (g := gb652) (cs := #[.string t649, .int .i64 t650]) hb bk; replace HB := bN bz hb; (try clear hb); (try clear hb2); (try clear hk); (try clear hi)))
          go_ret
          exact ⟨ez, bz⟩
         ·rw [if_neg c19] at H
          have c19b0 : (t649.toList == ([] : List UInt8) && (t650 == 0)) = false := by simpa using c19
          have c19e : (t649.toList = [] ∧ t650 = 0) = False := eq_false (by simpa using c19b0)
          (try (have c19b1 : decide (t649.toList = ([] : List UInt8) && (t650 == 0)) = false := by simpa using c19))
          (try (have c19b2 : (t649.toList == ([] : List UInt8) && (t650 == 0)) = false := by simpa using c19))
          (try (have c19b3 : ¬ (t649.toList = ([] : List UInt8) && (t650 == 0)) := by simpa using c19))
          clear c19
          obtain rfl := Option.some.inj H
          obtain ⟨hcz23_0, hcz23_1, hfz23_0, hfz23_1⟩ := cz2 (W := wc) BK652
          go_wp2
          go_ret
          exact ⟨ez, bz⟩
        ·rw [if_neg c18] at H
         obtain ⟨c18b0, c18b1⟩ := eF c18
         obtain rfl := Option.some.inj H
         go_wp2
         go_ret
         exact ⟨ez, bz⟩
       ·rw [if_neg c17] at H
        obtain ⟨c17b0, c17b1⟩ := eF c17
        obtain rfl := Option.some.inj H
        go_wp2
        go_ret
        exact ⟨ez, bz⟩
      ·rw [if_neg c16] at H
       obtain ⟨c16b0, c16b1⟩ := eF c16
       obtain rfl := Option.some.inj H
       go_wp2
       go_ret
       exact ⟨ez, bz⟩
     ·rw [if_neg c15] at H
      obtain ⟨c15b0, c15b1⟩ := eF c15
      obtain rfl := Option.some.inj H
      go_wp2
      go_ret
      exact ⟨ez, bz⟩
    ·rw [if_neg c14] at H
     obtain ⟨c14b0, c14b1⟩ := eF c14
     obtain rfl := Option.some.inj H
     go_wp2
     go_ret
     exact ⟨ez, bz⟩
   ·replace c13 := Bool.eq_false_iff.mpr c13
    subst c13
    replace H := hF H
    by_cases c24 : t648 = 0
    ·rw [if_pos c24] at H
     obtain ⟨c24b0, c24b1⟩ := eT c24
     clear c24
     by_cases c25 : t651 = 0
     ·rw [if_pos c25] at H
      obtain ⟨c25b0, c25b1⟩ := eT c25
      clear c25
      by_cases c26 : t654 = 0
      ·rw [if_pos c26] at H
       obtain ⟨c26b0, c26b1⟩ := eT c26
       clear c26
       replace H := bs H
       obtain ⟨t656, A27, H⟩ := H
       obtain rfl := Option.some.inj H
       go_wp2_with (first | (go_at_call 15; (with_reducible refine (platenlaw05_lives.calls kj5  t656 _ A27.out).mono ?_); rintro e w28 ⟨rfl, hb⟩; replace BK652 := kN (g := gb652) (cs := #[.string t649, .int .i64 t650]) hb bk; replace HB := bN bz hb; (try clear hb); (try clear hb2); (try clear hk); (try clear hi)))
       go_ret
       exact ⟨ez, bz⟩
      ·rw [if_neg c26] at H
       obtain ⟨c26b0, c26b1⟩ := eF c26
       obtain rfl := Option.some.inj H
       go_wp2
       go_ret
       exact ⟨ez, bz⟩
     ·rw [if_neg c25] at H
      obtain ⟨c25b0, c25b1⟩ := eF c25
      obtain rfl := Option.some.inj H
      go_wp2
      go_ret
      exact ⟨ez, bz⟩
    ·rw [if_neg c24] at H
     obtain ⟨c24b0, c24b1⟩ := eF c24
     by_cases c29 : t646 = 0
     ·rw [if_pos c29] at H
      obtain ⟨c29b0, c29b1⟩ := eT c29
      clear c29
      by_cases c30 : t647 = 0
      ·rw [if_pos c30] at H
       obtain ⟨c30b0, c30b1⟩ := eT c30
       clear c30
       by_cases c31 : t651 = 1
       ·rw [if_pos c31] at H
        obtain ⟨c31b0, c31b1⟩ := eT c31
        clear c31
        by_cases c32 : (t649.toList == ([] : List UInt8) && (t650 == 0)) = true
        ·rw [if_pos c32] at H
         have c32b0 : (t649.toList == ([] : List UInt8) && (t650 == 0)) = true := c32
         have c32e : (t649.toList = [] ∧ t650 = 0) = True := eq_true (by simpa using c32b0)
         (try (have c32b1 : decide (t649.toList = ([] : List UInt8) && (t650 == 0)) = true := by simpa using c32))
         (try (have c32b2 : (t649.toList == ([] : List UInt8) && (t650 == 0)) = true := by simpa using c32))
         clear c32
         by_cases c33 : t654 = 0
         ·rw [if_pos c33] at H
          obtain ⟨c33b0, c33b1⟩ := eT c33
          clear c33
          replace H := bs H
          obtain ⟨t657, A34, H⟩ := H
          obtain rfl := Option.some.inj H
          obtain ⟨hcz35_0, hcz35_1, hfz35_0, hfz35_1⟩ := cz2 (W := wc) BK652
          go_wp2_with (first | (go_at_call 15; (with_reducible refine (platenlaw05_lives.calls kj5  t657 _ A34.out).mono ?_); rintro e w36 ⟨rfl, hb⟩; replace BK652 := kN (g := gb652) (cs := #[.string t649, .int .i64 t650]) hb bk; replace HB := bN bz hb; (try clear hb); (try clear hb2); (try clear hk); (try clear hi)))
          go_ret
          exact ⟨ez, bz⟩
         ·rw [if_neg c33] at H
          obtain ⟨c33b0, c33b1⟩ := eF c33
          obtain rfl := Option.some.inj H
          obtain ⟨hcz37_0, hcz37_1, hfz37_0, hfz37_1⟩ := cz2 (W := wc) BK652
          go_wp2
          go_ret
          exact ⟨ez, bz⟩
        ·rw [if_neg c32] at H
         have c32b0 : (t649.toList == ([] : List UInt8) && (t650 == 0)) = false := by simpa using c32
         have c32e : (t649.toList = [] ∧ t650 = 0) = False := eq_false (by simpa using c32b0)
         (try (have c32b1 : decide (t649.toList = ([] : List UInt8) && (t650 == 0)) = false := by simpa using c32))
         (try (have c32b2 : (t649.toList == ([] : List UInt8) && (t650 == 0)) = false := by simpa using c32))
         (try (have c32b3 : ¬ (t649.toList = ([] : List UInt8) && (t650 == 0)) := by simpa using c32))
         clear c32
         obtain rfl := Option.some.inj H
         obtain ⟨hcz38_0, hcz38_1, hfz38_0, hfz38_1⟩ := cz2 (W := wc) BK652
         go_wp2
         go_ret
         exact ⟨ez, bz⟩
       ·rw [if_neg c31] at H
        obtain ⟨c31b0, c31b1⟩ := eF c31
        obtain rfl := Option.some.inj H
        go_wp2
        go_ret
        exact ⟨ez, bz⟩
      ·rw [if_neg c30] at H
       obtain ⟨c30b0, c30b1⟩ := eF c30
       obtain rfl := Option.some.inj H
       go_wp2
       go_ret
       exact ⟨ez, bz⟩
     ·rw [if_neg c29] at H
      obtain ⟨c29b0, c29b1⟩ := eF c29
      obtain rfl := Option.some.inj H
      go_wp2
      go_ret
      exact ⟨ez, bz⟩
end Go.Proofs.YtmeapdchnnpceaaDoor.Fn
end
section
namespace Go.Proofs.YtmeapdchnnpceaaDoor.Pure
open Go.RowKit Go.Proofs.YtmeapdchnnpceaaDoorW.PrintWords Go.Proofs.YtmeapdchnnpceaaDoor.Fn
set_option linter.unusedVariables false
set_option linter.unusedSimpArgs false
theorem no_short (a : Int) {n : Int} (h1 : n ≠ 32) (h2 : n ≠ 64) : Ev (fun k => short_Shortest.f k a n) (⟨#[]⟩, 0, 1) := by
  unfold short_Shortest.f
  rw [of_no h1 h2]
  exact Ev.congr (fun k => by simp) (Ev.now _)
theorem empty_same : ((⟨#[]⟩ : ByteArray).toList == ([] : List UInt8) && ((0 : Int) == 0)) = true := by
  simp [toList_L, L]
theorem ShortRefuses : ∀ (a0 : Int) (a1 : Int), (Lit.int .u64 a0).wf = true → (Lit.int .i64 a1).wf = true → ∃ k, platenlaw05_ShortRefuses.f k a0 a1 = some true := by
  intro a0 a1 h0 _
  obtain ⟨a, rfl, ha⟩ := wf_u64 h0
  refine Ev.rounds (g := fun k => platenlaw05_ShortRefuses.f k (a : Int) a1) ?_
  unfold platenlaw05_ShortRefuses.f
  by_cases hs : a1 = 32 ∨ a1 = 64
  · obtain ⟨wide, rfl⟩ := size_two hs
    rw [parts_eq wide a ha]
    simp only [Option.bind_some]
    refine Ev.bind (shortest_eq wide a ha) ?_
    have hr := read_eq wide (⟨#[]⟩ : ByteArray) 0
    rw [read_zero wide] at hr
    refine Ev.bind hr ?_
    have key : Ev (fun k => platenlaw05_ShortRefuses.j0 k (partsS wide a).2.1 (partsS wide a).2.2.1 (partsS wide a).2.2.2 (shortS wide a).2.2 0 false (shortS wide a).1 (shortS wide a).2.1) true := by
      refine Ev.step (fun k => by simp only [platenlaw05_ShortRefuses.j0]; rfl) ?_
      refine Ev.congr (fun k => if_neg (by simp)) ?_
      by_cases c : bareN wide a < ii wide
      · have e1 : (partsS wide a).2.2.2 = 0 := by unfold partsS; rw [if_pos c]
        have e2 : (shortS wide a).2.2 = 0 := by
          unfold shortS
          rw [if_neg (by omega)]
          split <;> rfl
        rw [e1, e2]
        refine Ev.congr (fun k => if_pos (by first | rfl | trivial)) ?_
        refine Ev.congr (fun k => if_pos (by first | rfl | trivial)) ?_
        exact Ev.congr (fun k => if_pos (by first | rfl | trivial)) livesEnd
      · have e1 : (partsS wide a).2.2.2 ≠ 0 := by
          unfold partsS
          rw [if_neg c]
          dsimp only
          split <;> decide
        have e3 : (partsS wide a).2.1 = 0 ∧ (partsS wide a).2.2.1 = 0 := by unfold partsS; rw [if_neg c]; exact ⟨rfl, rfl⟩
        have e2 : shortS wide a = (⟨#[]⟩, 0, 1) := by
          unfold shortS
          rw [if_pos (by omega)]
        rw [e2, e3.1, e3.2]
        refine Ev.congr (fun k => if_neg e1) ?_
        refine Ev.congr (fun k => if_pos (by first | rfl | trivial)) ?_
        refine Ev.congr (fun k => if_pos (by first | rfl | trivial)) ?_
        refine Ev.congr (fun k => if_pos (by first | rfl | trivial)) ?_
        refine Ev.congr (fun k => if_pos empty_same) ?_
        exact Ev.congr (fun k => if_pos (by first | rfl | trivial)) livesEnd
    by_cases c32 : szB wide = 32
    · exact Ev.congr (fun k => if_pos c32) key
    · refine Ev.congr (fun k => if_neg c32) ?_
      rw [show (szB wide != 64) = false by cases wide <;> simp [szB] at *]
      exact key
  · have h1 : a1 ≠ 32 := fun e => hs (.inl e)
    have h2 : a1 ≠ 64 := fun e => hs (.inr e)
    rw [parts_no (a : Int) h1 h2]
    simp only [Option.bind_some]
    refine Ev.bind (no_short (a : Int) h1 h2) ?_
    refine Ev.bind (read_no (⟨#[]⟩ : ByteArray) 0 h1 h2) ?_
    refine Ev.congr (fun k => if_neg h1) ?_
    rw [bne_iff_ne.mpr h2]
    refine Ev.step (fun k => by simp only [platenlaw05_ShortRefuses.j0]; rfl) ?_
    refine Ev.congr (fun k => if_pos (by first | rfl | trivial)) ?_
    refine Ev.congr (fun k => if_pos (by first | rfl | trivial)) ?_
    refine Ev.congr (fun k => if_pos (by first | rfl | trivial)) ?_
    refine Ev.congr (fun k => if_pos (by first | rfl | trivial)) ?_
    refine Ev.congr (fun k => if_pos (by first | rfl | trivial)) ?_
    refine Ev.congr (fun k => if_pos (by first | rfl | trivial)) ?_
    refine Ev.congr (fun k => if_pos empty_same) ?_
    exact livesEnd
end Go.Proofs.YtmeapdchnnpceaaDoor.Pure
end
