/- The law ShortClosest: the walks through its functions and its plain law (part 4). Own texts and the kit's printed words for this seat, without what the law does not use: put together by merge.py (of this work). -/
import Derived.Test.YtmeapdchnnpceaaDoorMShortClosest3
import Derived.Handy
section
namespace Go.Proofs.YtmeapdchnnpceaaDoor.Pure
open Go.RowKit Go.Proofs.YtmeapdchnnpceaaDoorW.PrintWords Go.Proofs.YtmeapdchnnpceaaDoor.Fn
set_option linter.unusedVariables false
set_option linter.unusedSimpArgs false
theorem one_decOf (u : Int) : (S ([49] : List UInt8), u + 1) = (S (decOf 1 u).1, (decOf 1 u).2) := by
  unfold decOf
  rw [if_neg (by omega)]
  have h1 : digs 1 = [49] := rfl
  rw [h1]
  have h2 : rz [49] = [49] := rfl
  rw [h2]
  simp
  omega
theorem normS_all {l : List UInt8} (h : AllD l) {p : Int} (hl : l.length ≤ 2000) (hp : -5000 ≤ p ∧ p ≤ 5000) : normS (S l) p = (S (decOf (val l) (p - l.length)).1, (decOf (val l) (p - l.length)).2, 0) := by
  unfold normS normTail
  rw [if_neg (by rw [size_S]; omega), L_S, if_pos (all_isD h), if_neg (by omega), if_neg (by omega), formL_eq h]
  rfl
theorem dec_bound {n k : Nat} {e : Int} (h : n < 10 ^ k) (hk : k ≤ 1400) (he : -3000 ≤ e) (h2 : e + k ≤ 3000) : (decOf n e).1.length ≤ 2000 ∧ -5000 ≤ (decOf n e).2 ∧ (decOf n e).2 ≤ 5000 := by
  have := decOf_bound h e
  omega
structure Val (wide : Bool) (p : Nat) (v : List UInt8 × Int) : Prop where
  form : InForm v.1 v.2
  len : v.1.length ≤ 1300
  lo : -1200 ≤ v.2
  hi : v.2 ≤ 1300
def cU (v : List UInt8 × Int) (n : Nat) : Nat := val (v.1.take n)
def cE (v : List UInt8 × Int) (n : Nat) : Int := v.2 - n
def isP (wide : Bool) (p : Nat) (n : Nat) (x : Int) : Prop := rdX wide (dX wide n x) = p
instance (wide : Bool) (p n : Nat) (x : Int) : Decidable (isP wide p n x) := by unfold isP; infer_instance
def nearU (v : List UInt8 × Int) (n : Nat) : Nat := if downP v.1 n then cU v n else cU v n + 1
def bestD (wide : Bool) (p : Nat) (v : List UInt8 × Int) (n : Nat) : Option (List UInt8 × Int) :=
  if v.1.length ≤ n then some v
  else if isP wide p (nearU v n) (cE v n) then some (decOf (nearU v n) (cE v n))
  else if isP wide p (cU v n) (cE v n) then some (decOf (cU v n) (cE v n))
  else if isP wide p (cU v n + 1) (cE v n) then some (decOf (cU v n + 1) (cE v n)) else none
def optD (o : Option (List UInt8 × Int)) : ByteArray × Int × Bool := match o with
  | some d => (S d.1, d.2, true)
  | none => (⟨#[]⟩, 0, false)
structure Span (wide : Bool) (p : Nat) (lo hi : List UInt8 × Int) : Prop where
  f1 : InForm lo.1 lo.2
  f2 : InForm hi.1 hi.2
  b1 : lo.1.length ≤ 2000 ∧ -5000 ≤ lo.2 ∧ lo.2 ≤ 5000
  b2 : hi.1.length ≤ 2000 ∧ -5000 ≤ hi.2 ∧ hi.2 ≤ 5000
  c1 : ∀ (n : Nat) (x : Int), -(vv : Int) ≤ x → cmpD lo.1 lo.2 (decOf n x).1 (decOf n x).2 = cmpN (loX wide p) (dX wide n x)
  c2 : ∀ (n : Nat) (x : Int), -(vv : Int) ≤ x → cmpD hi.1 hi.2 (decOf n x).1 (decOf n x).2 = cmpN (hiX wide p) (dX wide n x)
theorem in_ev {wide : Bool} {p : Nat} {lo hi : List UInt8 × Int} (hs : Span wide p lo hi) (hp : 0 < p) (hi2 : p < ii wide) {n k : Nat} {e : Int} (h : n < 10 ^ k) (hk : k ≤ 1400) (he : -3000 ≤ e) (h2 : e + k ≤ 3000) :
    Ev (fun r => short_span_in.f r (S lo.1) lo.2 (S hi.1) hi.2 (decide (p % 2 = 0)) (S (decOf n e).1) (decOf n e).2) (decide (isP wide p n e)) := by
  have hv := vv_eq
  exact span_ev wide p _ rfl rfl rfl hs.f1 hs.f2 (inForm_decOf n e) hs.b1 hs.b2 (dec_bound h hk he h2) (hs.c1 n e (by omega)) (hs.c2 n e (by omega)) _ (by rw [decide_eq_true_iff]; exact (inX_iff wide hp hi2 _).symm)
theorem cU_lt {wide : Bool} {p : Nat} {v : List UInt8 × Int} (hv : Val wide p v) (n : Nat) (hn : n < v.1.length) : cU v n < 10 ^ n := by
  have := val_lt (hv.form.1.take n)
  rw [List.length_take, Nat.min_eq_left (by omega)] at this
  exact this
theorem nearU_two (v : List UInt8 × Int) (n : Nat) : nearU v n = cU v n ∨ nearU v n = cU v n + 1 := by
  unfold nearU
  split
  · exact .inl rfl
  · exact .inr rfl
theorem round_v {wide : Bool} {p : Nat} {v : List UInt8 × Int} (hv : Val wide p v) (n : Nat) (hn : n < v.1.length) : roundN v.1 v.2 (n : Int) = decOf (nearU v n) (cE v n) := by
  unfold roundN nearU cU cE
  rw [if_neg (by omega), if_neg (by omega), Int.toNat_natCast]
  by_cases c : downP v.1 n
  · rw [if_pos c, if_pos c]
  · rw [if_neg c, if_neg c]
theorem Val.five {wide : Bool} {p : Nat} {v : List UInt8 × Int} (hv : Val wide p v) : v.1.length ≤ 2000 ∧ -5000 ≤ v.2 ∧ v.2 ≤ 5000 := by
  have := hv.len
  have := hv.lo
  have := hv.hi
  omega
theorem best_ev {wide : Bool} {p : Nat} {lo hi v : List UInt8 × Int} (hs : Span wide p lo hi) (hv : Val wide p v) (hp : 0 < p) (hi2 : p < ii wide) (n : Nat) :
    Ev (fun k => short_best.f k (S v.1) v.2 (n : Int) (S lo.1) lo.2 (S hi.1) hi.2 (decide (p % 2 = 0))) (optD (bestD wide p v n)) := by
  have hl := hv.len
  have hlo := hv.lo
  have hhi := hv.hi
  have h5 := hv.five
  unfold short_best.f bestD
  rw [size_S]
  by_cases c1 : v.1.length ≤ n
  · rw [if_pos c1]
    exact Ev.congr (fun k => if_pos (by omega)) (Ev.now _)
  · rw [if_neg c1]
    refine Ev.congr (fun k => if_neg (by omega)) ?_
    have hn : n < v.1.length := by omega
    have hu := cU_lt hv n hn
    have hu1 : cU v n + 1 < 10 ^ (n + 1) := by
      rw [Nat.pow_succ]
      have : 1 ≤ 10 ^ n := Nat.pow_pos (by omega)
      omega
    have hE : -3000 ≤ cE v n ∧ cE v n + ((n + 1 : Nat) : Int) ≤ 3000 := by unfold cE; omega
    have hnr : nearU v n < 10 ^ (n + 1) := by rcases nearU_two v n with h | h <;> rw [h] <;> omega
    have hr := roundS_eq (S v.1) v.2 (n : Int)
    have e1 : roundS (S v.1) v.2 (fun _ => (n : Int)) = (S (decOf (nearU v n) (cE v n)).1, (decOf (nearU v n) (cE v n)).2, 0) := by
      unfold roundS
      rw [normS_ok hv.form h5.1 h5.2, if_pos rfl]
      simp only [L_S]
      rw [round_v hv n hn]
      rfl
    rw [e1] at hr
    refine Ev.bind hr ?_
    refine Ev.bind (in_ev hs hp hi2 hnr (by omega) hE.1 hE.2) ?_
    by_cases c2 : isP wide p (nearU v n) (cE v n)
    · rw [if_pos c2]
      refine Ev.congr (fun k => if_pos (decide_eq_true c2)) (Ev.now _)
    · rw [if_neg c2]
      refine Ev.congr (fun k => if_neg (fun h => c2 (of_decide_eq_true h))) ?_
      refine Ev.congr (fun k => if_pos (by omega)) ?_
      refine Ev.congr (fun k => if_pos (by omega)) ?_
      rw [Int.toNat_natCast, S_take]
      have hnm := norm_eq (S (v.1.take n)) v.2
      have htl : (v.1.take n).length = n := by rw [List.length_take, Nat.min_eq_left (by omega)]
      rw [normS_all (hv.form.1.take n) (by omega) h5.2, htl] at hnm
      rw [show val (v.1.take n) = cU v n from rfl, show v.2 - (n : Int) = cE v n from rfl] at hnm
      refine Ev.bind hnm ?_
      have hw : wrap64 (wrap64 (v.2 - (n : Int)) + 1) = cE v n + 1 := by
        unfold cE
        rw [wrap_id (x := v.2 - (n : Int)) (by omega) (by omega), wrap_id (by omega) (by omega)]
      rw [hw]
      have hone := one_decOf (cE v n)
      have ho1 : (S ([49] : List UInt8)) = S (decOf 1 (cE v n)).1 := congrArg Prod.fst hone
      have ho2 : cE v n + 1 = (decOf 1 (cE v n)).2 := congrArg Prod.snd hone
      have hadd := addS_eq (S (decOf (cU v n) (cE v n)).1) (decOf (cU v n) (cE v n)).2 (S (decOf 1 (cE v n)).1) (decOf 1 (cE v n)).2
      have hE' : cE v n + (n : Int) ≤ 3000 := by omega
      have hE1 : cE v n + ((1 : Nat) : Int) ≤ 3000 := by omega
      rw [addS_ok (inForm_decOf _ _) (inForm_decOf _ _) (dec_bound hu (by omega) hE.1 hE') (dec_bound (n := 1) (k := 1) (by decide) (by decide) hE.1 hE1)] at hadd
      have e2 : addD (decOf (cU v n) (cE v n)).1 (decOf (cU v n) (cE v n)).2 (decOf 1 (cE v n)).1 (decOf 1 (cE v n)).2 = (S (decOf (cU v n + 1) (cE v n)).1, (decOf (cU v n + 1) (cE v n)).2, 0) := by
        unfold addD
        rw [sum_decOf, if_neg (by have := (dec_bound hu1 (by omega) hE.1 hE.2).1; omega)]
        rfl
      rw [e2, ← ho1, ← ho2] at hadd
      refine Ev.bind (g := fun k => bigdec_Add.f k (S (decOf (cU v n) (cE v n)).1) (decOf (cU v n) (cE v n)).2 (⟨#[49]⟩ : ByteArray) (cE v n + 1)) hadd ?_
      refine Ev.step (fun k => by simp only [short_best.l0]; rfl) ?_
      refine Ev.congr (fun k => if_pos (by simp)) ?_
      refine Ev.congr (fun k => if_pos (by simp)) ?_
      refine Ev.bind (in_ev hs hp hi2 hu (by omega) hE.1 hE') ?_
      by_cases c3 : isP wide p (cU v n) (cE v n)
      · rw [if_pos c3]
        exact Ev.congr (fun k => if_pos (decide_eq_true c3)) (Ev.now _)
      · rw [if_neg c3]
        refine Ev.congr (fun k => if_neg (fun h => c3 (of_decide_eq_true h))) ?_
        rw [show wrap64 ((0 : Int) + 1) = 1 by simp [wrap64]]
        refine Ev.step (fun k => by simp only [short_best.l0]; rfl) ?_
        refine Ev.congr (fun k => if_pos (by simp)) ?_
        refine Ev.congr (fun k => if_neg (by simp)) ?_
        refine Ev.congr (fun k => if_pos (by simp)) ?_
        refine Ev.bind (in_ev hs hp hi2 hu1 (by omega) hE.1 hE.2) ?_
        by_cases c4 : isP wide p (cU v n + 1) (cE v n)
        · rw [if_pos c4]
          exact Ev.congr (fun k => if_pos (decide_eq_true c4)) (Ev.now _)
        · rw [if_neg c4]
          refine Ev.congr (fun k => if_neg (fun h => c4 (of_decide_eq_true h))) ?_
          rw [show wrap64 ((1 : Int) + 1) = 2 by simp [wrap64]]
          refine Ev.step (fun k => by simp only [short_best.l0]; rfl) ?_
          exact Ev.congr (fun k => if_neg (by simp)) (Ev.now _)
def shortGo (wide : Bool) (p : Nat) (v : List UInt8 × Int) : Nat → Nat → List UInt8 × Int
  | 0, _ => v
  | d + 1, n => match bestD wide p v n with
    | some r => r
    | none => shortGo wide p v d (n + 1)
theorem best_all (wide : Bool) (p : Nat) (v : List UInt8 × Int) {n : Nat} (h : v.1.length ≤ n) : bestD wide p v n = some v := by
  unfold bestD
  rw [if_pos h]
theorem loop_ev {wide : Bool} {p : Nat} {lo hi v : List UInt8 × Int} (hs : Span wide p lo hi) (hv : Val wide p v) (hp : 0 < p) (hi2 : p < ii wide) : ∀ (d n : Nat), v.1.length ≤ n + d → n ≤ 2000 →
    Ev (fun k => short_Shortest.l0 k (n : Int) (S v.1) v.2 (S lo.1) lo.2 (S hi.1) hi.2 (decide (p % 2 = 0))) (S (shortGo wide p v d n).1, (shortGo wide p v d n).2, 0) := by
  intro d
  induction d with
  | zero =>
    intro n h hn
    have hb := best_ev hs hv hp hi2 n
    rw [best_all wide p v (n := n) h] at hb
    refine Ev.step (fun k => by simp only [short_Shortest.l0]; rfl) ?_
    refine Ev.bind hb ?_
    exact Ev.congr (fun k => if_pos rfl) (Ev.now _)
  | succ d ih =>
    intro n h hn
    have hb := best_ev hs hv hp hi2 n
    refine Ev.step (fun k => by simp only [short_Shortest.l0]; rfl) ?_
    refine Ev.bind hb ?_
    unfold shortGo
    cases hbd : bestD wide p v n with
    | some r => exact Ev.congr (fun k => if_pos rfl) (Ev.now _)
    | none =>
      refine Ev.congr (fun k => if_neg (by decide)) ?_
      have hlen := hv.len
      have hn2 : n < v.1.length := by
        refine Nat.lt_of_not_le fun c => ?_
        rw [best_all wide p v c] at hbd
        cases hbd
      rw [wrap_id (by omega) (by omega), show ((n : Int) + 1) = ((n + 1 : Nat) : Int) by omega]
      exact ih (n + 1) (by omega) (by omega)
def exV (wide : Bool) (p : Nat) : List UInt8 × Int := exD (fM (ff wide) p) ((fE (ff wide) p : Int) - (ll wide : Int))
theorem exV_val (wide : Bool) {p : Nat} (hp : p < ii wide) : Val wide p (exV wide p) := by
  have h1 := fEl wide (Nat.le_of_lt hp)
  have h2 := fE_le wide (Nat.le_of_lt hp)
  have h := exD_small (m := fM (ff wide) p) (by omega) (e := (fE (ff wide) p : Int) - (ll wide : Int)) (by omega)
  exact ⟨exD_form _ _, h.1, h.2.1, h.2.2⟩
def shortD (wide : Bool) (p : Nat) : List UInt8 × Int := shortGo wide p (exV wide p) (exV wide p).1.length 1
def shortS (wide : Bool) (a : Nat) : ByteArray × Int × Int :=
  if ii wide ≤ bareN wide a then (⟨#[]⟩, 0, 1) else if bareN wide a = 0 then (⟨#[]⟩, 0, 0) else (S (shortD wide (bareN wide a)).1, (shortD wide (bareN wide a)).2, 0)
theorem hi_span (wide : Bool) {p : Nat} (hp : 0 < p) (hi : p < ii wide) {lo : List UInt8 × Int} (f1 : InForm lo.1 lo.2) (b1 : lo.1.length ≤ 2000 ∧ -5000 ≤ lo.2 ∧ lo.2 ≤ 5000)
    (c1 : ∀ (n : Nat) (x : Int), -(vv : Int) ≤ x → cmpD lo.1 lo.2 (decOf n x).1 (decOf n x).2 = cmpN (loX wide p) (dX wide n x)) :
    Span wide p lo (exD (2 * fM (ff wide) p + 1) ((fE (ff wide) p : Int) - (ll wide : Int) - 1)) := by
  have h1 := fEl wide (Nat.le_of_lt hi)
  have h2 := fE_le wide (Nat.le_of_lt hi)
  have h := exD_small (m := 2 * fM (ff wide) p + 1) (by omega) (e := (fE (ff wide) p : Int) - (ll wide : Int) - 1) (by omega)
  exact ⟨f1, exD_form _ _, b1, by omega, c1, fun n x hx => cmp_hi wide p n x hx⟩
theorem j1_ev {wide : Bool} {p : Nat} {lo hi : List UInt8 × Int} (hs : Span wide p lo hi) (hp : 0 < p) (hi2 : p < ii wide) :
    Ev (fun k => short_Shortest.j1 k (p : Int) (ff wide : Int) (-(ll wide : Int)) (ii wide : Int) (S lo.1) lo.2 (S hi.1) hi.2 (decide (p % 2 = 0))) (S (shortD wide p).1, (shortD wide p).2, 0) := by
  refine Ev.step (fun k => by simp only [short_Shortest.j1]; rfl) ?_
  have hsh := shapeExact_ev wide (Nat.le_of_lt hi2)
  refine Ev.bind hsh ?_
  exact loop_ev hs (exV_val wide hi2) hp hi2 (exV wide p).1.length 1 (by omega) (by omega)
theorem shortest_eq (wide : Bool) (a : Nat) (ha : a < 18446744073709551616) : Ev (fun k => short_Shortest.f k (a : Int) (szB wide)) (shortS wide a) := by
  obtain ⟨j, hj, ht, hw⟩ := tt_pow wide
  have hi := ii_lt wide
  have hmt := Nat.mod_lt a (tt_le wide).1
  have htt := (tt_le wide).2
  unfold short_Shortest.f
  rw [of_eq']
  simp only [Option.bind_some, if_true]
  rw [hw]
  refine Ev.congr (fun k => if_pos (by omega)) ?_
  rw [mask_one _ hj, and_mask _ _ (by omega) ha, ← ht]
  unfold shortS bareN
  obtain ⟨p, hp⟩ : ∃ p, a % tt wide = p := ⟨_, rfl⟩
  rw [hp] at hmt ⊢
  by_cases c1 : ii wide ≤ p
  · rw [if_pos c1]
    exact Ev.congr (fun k => if_pos (by omega)) (Ev.now _)
  · rw [if_neg c1]
    refine Ev.congr (fun k => if_neg (by omega)) ?_
    rw [value_eq wide p (by omega)]
    simp only [Option.bind_some]
    by_cases c2 : p = 0
    · rw [if_pos c2]
      have h0 : fM (ff wide) p = 0 := by rw [c2]; cases wide <;> decide
      exact Ev.congr (fun k => if_pos (by omega)) (Ev.now _)
    · rw [if_neg c2]
      have hp0 : 0 < p := by omega
      have hlt : p < ii wide := by omega
      have hm := fM_pos (f := ff wide) hp0
      refine Ev.congr (fun k => if_neg (by omega)) ?_
      have h1 := fEl wide (Nat.le_of_lt hlt)
      have h2 := fE_le wide (Nat.le_of_lt hlt)
      obtain ⟨e, he⟩ : ∃ e : Int, (fE (ff wide) p : Int) - (ll wide : Int) = e := ⟨_, rfl⟩
      have hlo2 := cmp_lo2 wide hp0
      have hlo1 := cmp_lo1 wide hp0
      have hsp := fun lo => @hi_span wide p hp0 hlt lo
      have hll := ll_two wide
      rw [he] at h1 hlo1 hlo2 hsp ⊢
      obtain ⟨m, hmm⟩ : ∃ m, fM (ff wide) p = m := ⟨_, rfl⟩
      rw [hmm] at hm h2 hlo1 hlo2 hsp ⊢
      have e1 : IntKind.u64.wrap (IntKind.u64.wrap (2 * (m : Int)) + 1) = ((2 * m + 1 : Nat) : Int) := by
        rw [show (2 : Int) * (m : Int) = ((2 * m : Nat) : Int) by omega, u64N _ (by omega), show (((2 * m : Nat) : Int) + 1) = ((2 * m + 1 : Nat) : Int) by omega, u64N _ (by omega)]
      have e2 : IntKind.u64.wrap (IntKind.u64.wrap (2 * (m : Int)) - 1) = ((2 * m - 1 : Nat) : Int) := by
        rw [show (2 : Int) * (m : Int) = ((2 * m : Nat) : Int) by omega, u64N _ (by omega), show (((2 * m : Nat) : Int) - 1) = ((2 * m - 1 : Nat) : Int) by omega, u64N _ (by omega)]
      have e4 : IntKind.u64.wrap (IntKind.u64.wrap (4 * (m : Int)) - 1) = ((4 * m - 1 : Nat) : Int) := by
        rw [show (4 : Int) * (m : Int) = ((4 * m : Nat) : Int) by omega, u64N _ (by omega), show (((4 * m : Nat) : Int) - 1) = ((4 * m - 1 : Nat) : Int) by omega, u64N _ (by omega)]
      have w1 : wrap64 (e - 1) = e - 1 := wrap_id (by omega) (by omega)
      have w2 : wrap64 (e - 2) = e - 2 := wrap_id (by omega) (by omega)
      have x1 := exact_eq (2 * m + 1) (e - 1) (by omega)
      rw [exactS_exD _ (by omega)] at x1
      have x2 := exact_eq (2 * m - 1) (e - 1) (by omega)
      rw [exactS_exD _ (by omega)] at x2
      have x4 := exact_eq (4 * m - 1) (e - 2) (by omega)
      rw [exactS_exD _ (by omega)] at x4
      have s2 := exD_small (m := 2 * m - 1) (by omega) (e := e - 1) (by omega)
      have s4 := exD_small (m := 4 * m - 1) (by omega) (e := e - 2) (by omega)
      rw [e1, w1, e2]
      refine Ev.bind x1 ?_
      refine Ev.bind x2 ?_
      refine Ev.congr (fun k => if_pos (by omega)) ?_
      have hpar : (Int.tmod (m : Int) 2 == 0) = decide (p % 2 = 0) := by
        rw [show (2 : Int) = ((2 : Nat) : Int) from rfl, tmodN]
        have hq : p % 2 = m % 2 := by
          obtain ⟨g1, _⟩ := fOf (ff wide) p
          rw [hmm] at g1
          obtain ⟨u, hu⟩ : ∃ u, ff wide = u + 1 := ⟨ff wide - 1, (Nat.sub_add_cancel (Nat.le_trans (by decide) (ff_two wide).1)).symm⟩
          rw [hu, Nat.pow_succ, ← Nat.mul_assoc] at g1
          generalize fE (u + 1) p * 2 ^ u = G at g1
          rw [g1]
          omega
        rw [hq, Bool.eq_iff_iff]
        simp
        omega
      rw [hpar, shl_one _ (Nat.le_trans (ff_lt wide) (by decide))]
      -- the two ways behind
      have way1 : m ≠ 2 ^ ff wide ∨ fE (ff wide) p = 0 → Ev (fun k => short_Shortest.j1 k (p : Int) (ff wide : Int) (-(ll wide : Int)) (ii wide : Int) (S (exD (2 * m - 1) (e - 1)).1) (exD (2 * m - 1) (e - 1)).2 (S (exD (2 * m + 1) (e - 1)).1) (exD (2 * m + 1) (e - 1)).2 (decide (p % 2 = 0))) (S (shortD wide p).1, (shortD wide p).2, 0) := fun h =>
        j1_ev (hsp _ (exD_form _ _) (by omega) (fun n x hx => hlo1 h n x hx)) hp0 hlt
      by_cases c3 : m = 2 ^ ff wide
      · refine Ev.congr (fun k => if_pos (by rw [c3])) ?_
        by_cases c4 : fE (ff wide) p = 0
        · rw [show decide (e > -(ll wide : Int)) = false from decide_eq_false (by omega)]
          refine Ev.step (fun k => by simp only [short_Shortest.j0]; rfl) ?_
          exact Ev.congr (fun k => if_neg (by decide)) (way1 (.inr c4))
        · rw [show decide (e > -(ll wide : Int)) = true from decide_eq_true (by omega)]
          refine Ev.step (fun k => by simp only [short_Shortest.j0]; rfl) ?_
          refine Ev.congr (fun k => if_pos (by simp)) ?_
          rw [e4, w2]
          refine Ev.bind x4 ?_
          exact j1_ev (hsp _ (exD_form _ _) (by omega) (fun n x hx => hlo2 c3 c4 n x hx)) hp0 hlt
      · refine Ev.congr (fun k => if_neg (fun h => c3 (Int.ofNat.inj h))) ?_
        refine Ev.step (fun k => by simp only [short_Shortest.j0]; rfl) ?_
        exact Ev.congr (fun k => if_neg (by decide)) (way1 (.inl c3))
end Go.Proofs.YtmeapdchnnpceaaDoor.Pure
end
section
namespace Go.Proofs.YtmeapdchnnpceaaDoor.Pure
open Go.RowKit Go.Proofs.YtmeapdchnnpceaaDoorW.PrintWords Go.Proofs.YtmeapdchnnpceaaDoor.Fn
set_option linter.unusedVariables false
set_option linter.unusedSimpArgs false
theorem dX_decOf (wide : Bool) (n : Nat) {e : Int} (he : -(vv : Int) ≤ e) : dX wide (val (decOf n e).1) ((decOf n e).2 - (decOf n e).1.length) = dX wide n e := by
  by_cases h : n = 0
  · subst h
    rw [decOf_zero]
    unfold dX
    rw [val_nil, Nat.zero_mul, Nat.zero_mul, Nat.zero_mul, Nat.zero_mul]
  · have h1 := sv_decOf n e
    have h2 := low_decOf h e
    unfold sv at h1
    generalize (decOf n e).2 - ((decOf n e).1.length : Int) = x at *
    obtain ⟨j, rfl⟩ : ∃ j : Nat, x = e + j := ⟨(x - e).toNat, by omega⟩
    have e1 : (e + (j : Int) - e).toNat = j := by omega
    have e2 : (e + (j : Int) + (vv : Int)).toNat = j + (e + (vv : Int)).toNat := by omega
    rw [e1] at h1
    unfold dX
    rw [e2, Nat.pow_add, ← Nat.mul_assoc, h1]
theorem rdS_dec (wide : Bool) {n k : Nat} {e : Int} (h : n < 10 ^ k) (hk : k ≤ 1400) (he : -3000 ≤ e) (h2 : e + k ≤ 3000) : rdS wide (S (decOf n e).1) (decOf n e).2 = ((rdX wide (dX wide n e) : Int), 0) := by
  have hb := dec_bound h hk he h2
  have hv := vv_eq
  unfold rdS
  rw [normS_ok (inForm_decOf n e) hb.1 hb.2, if_pos rfl]
  simp only [L_S]
  rw [dX_decOf wide n (by omega)]
theorem rdS_five (wide : Bool) {l : List UInt8} {q : Int} (hf : InForm l q) (h5 : l.length ≤ 2000 ∧ -5000 ≤ q ∧ q ≤ 5000) : rdS wide (S l) q = ((rdX wide (dX wide (val l) (q - l.length)) : Int), 0) := by
  unfold rdS
  rw [normS_ok hf h5.1 h5.2, if_pos rfl]
  simp only [L_S]
theorem cand {wide : Bool} {p : Nat} {v : List UInt8 × Int} (hv : Val wide p v) {n : Nat} (hn : n < v.1.length) :
    cU v n < 10 ^ n ∧ cU v n + 1 < 10 ^ (n + 1) ∧ n ≤ 1400 ∧ n + 1 ≤ 1400 ∧ -3000 ≤ cE v n ∧ cE v n + (n : Int) ≤ 3000 ∧ cE v n + ((n + 1 : Nat) : Int) ≤ 3000 := by
  have hl := hv.len
  have hlo := hv.lo
  have hhi := hv.hi
  have hu := cU_lt hv n hn
  refine ⟨hu, ?_, by omega, by omega, by unfold cE; omega, by unfold cE; omega, by unfold cE; omega⟩
  rw [Nat.pow_succ]
  have : 1 ≤ 10 ^ n := Nat.pow_pos (by omega)
  omega
theorem shortGo_step (wide : Bool) (p : Nat) (v : List UInt8 × Int) (d n : Nat) : shortGo wide p v (d + 1) n = (bestD wide p v n).getD (shortGo wide p v d (n + 1)) := by
  conv => lhs; unfold shortGo
  cases bestD wide p v n <;> rfl
end Go.Proofs.YtmeapdchnnpceaaDoor.Pure
end
section
namespace Go.Proofs.YtmeapdchnnpceaaDoor.Fn
open Go.RowKit Go.Proofs.YtmeapdchnnpceaaDoorW.PrintWords Go.Proofs.YtmeapdchnnpceaaDoorW.PrintLast Go.Proofs.YtmeapdchnnpceaaDoorW.PrintMore
attribute [local go_sem] min2_int min_two
set_option linter.unusedVariables false
set_option linter.unusedSimpArgs false
attribute [local go_sem high] eqA28
def platenlaw05_lives.f (k : Nat)  : Option (Bool) := (short_Read.f k (⟨#[49]⟩ : ByteArray) 0 64).bind fun bt302 => ((short_Shortest.f k 4591870180066957722 64).bind fun bt304 => ((short_Parts.f 4609434218613702656 64).bind fun bt308 => (if bt302.2 = 0 then (if bt304.2.2 = 0 then (if bt302.1 = 4591870180066957722 then (if (bt304.1.toList == ([49] : List UInt8) && (bt304.2.1 == 0)) = true then (if bt308.2.1 = 6755399441055744 then (if bt308.2.2.1 = (-52) then (some (bt308.2.2.2 == 0)) else (some false)) else (some false)) else (some false)) else (some false)) else (some false)) else (some false))))
set_option maxHeartbeats 8000000 in
set_option maxRecDepth 100000 in
theorem platenlaw05_lives.calls (k : Nat)  (r : Bool) (w : World) (h : platenlaw05_lives.f k  = some r) :
  Calls Tryd.prog 15 #[] w fun e w' => e = .returned (.bool r) ∧ Below w.heap.size w w' := by
 have hu28 := Tryd.underlying28
 have HB := Aside0.mk (Below.refl w.heap.size w)
 have H : ((short_Read.f k (⟨#[49]⟩ : ByteArray) 0 64).bind fun bt302 => ((short_Shortest.f k 4591870180066957722 64).bind fun bt304 => ((short_Parts.f 4609434218613702656 64).bind fun bt308 => (if bt302.2 = 0 then (if bt304.2.2 = 0 then (if bt302.1 = 4591870180066957722 then (if (bt304.1.toList == ([49] : List UInt8) && (bt304.2.1 == 0)) = true then (if bt308.2.1 = 6755399441055744 then (if bt308.2.2.1 = (-52) then (some (bt308.2.2.2 == 0)) else (some false)) else (some false)) else (some false)) else (some false)) else (some false)) else (some false))))) = some r := h
 clear h
 replace H := bs H
 obtain ⟨⟨t302, t303⟩, A1, H⟩ := H
 dsimp only at H
 replace H := bs H
 obtain ⟨⟨t304, t305, t306⟩, A2, H⟩ := H
 dsimp only at H
 replace H := bs H
 obtain ⟨⟨t308, t309, t310, t311⟩, A3, H⟩ := H
 dsimp only at H
 by_cases c4 : t303 = 0
 ·rw [if_pos c4] at H
  obtain ⟨c4b0, c4b1⟩ := eT c4
  clear c4
  by_cases c5 : t306 = 0
  ·rw [if_pos c5] at H
   obtain ⟨c5b0, c5b1⟩ := eT c5
   clear c5
   by_cases c6 : t302 = 4591870180066957722
   ·rw [if_pos c6] at H
    obtain ⟨c6b0, c6b1⟩ := eT c6
    clear c6
    by_cases c7 : (t304.toList == ([49] : List UInt8) && (t305 == 0)) = true
    ·rw [if_pos c7] at H
     have c7b0 : (t304.toList == ([49] : List UInt8) && (t305 == 0)) = true := c7
     (try (have c7b1 : decide (t304.toList = ([49] : List UInt8) && (t305 == 0)) = true := by simpa using c7))
     (try (have c7b2 : (t304.toList == ([49] : List UInt8) && (t305 == 0)) = true := by simpa using c7))
     clear c7
     by_cases c8 : t309 = 6755399441055744
     ·rw [if_pos c8] at H
      obtain ⟨c8b0, c8b1⟩ := eT c8
      clear c8
      by_cases c9 : t310 = (-52)
      ·rw [if_pos c9] at H
       obtain ⟨c9b0, c9b1⟩ := eT c9
       clear c9
       obtain rfl := Option.some.inj H
       go_enter Tryd.func15, Tryd.ntmps15
       go_wp2_with (first | ((with_reducible refine gate_callee (f := 16) rfl ?_); refine goesL_ (some 11) rfl rfl Tryd.func16 (by kernel_rfl) rfl #[.agg #[.string (⟨#[49]⟩ : ByteArray), .int .i64 0], .int .i64 64] rfl lz ?_; (with_reducible refine (short_Read.calls k (⟨#[49]⟩ : ByteArray) 0 64 t302 t303 _ A1.out).mono ?_); rintro e w10 ⟨rfl, hb⟩; refine ⟨_, rfl, ?_⟩; replace HB := bN bz hb; (try clear hb); (try clear hb2); (try clear hk); (try clear hi)) | ((with_reducible refine gate_callee (f := 18) rfl ?_); refine goesL_ (some 15) rfl rfl Tryd.func18 (by kernel_rfl) rfl #[.int .u64 4591870180066957722, .int .i64 64] rfl lz ?_; (with_reducible refine (short_Shortest.calls k 4591870180066957722 64 t304 t305 t306 _ A2.out).mono ?_); rintro e w11 ⟨rfl, hb⟩; refine ⟨_, rfl, ?_⟩; replace HB := bN bz hb; (try clear hb); (try clear hb2); (try clear hk); (try clear hi)) | ((with_reducible refine gate_dst (N := 3) rfl ?_); refine box_event rfl (N := 3) rfl (cs := #[.string (⟨#[]⟩ : ByteArray), .int .i64 0]) (t := 28) gz ?_; intro gb307 hg w12 hbox hb; have GW307 := gN bz hg; have GE307 := gN bz hg; have BK307 := Aside0.mk hbox; replace HB := bN bz hb; clear hb hbox hg; obtain ⟨hcz13_0, hcz13_1, hfz13_0, hfz13_1⟩ := cz2 (W := w12) BK307) | ((with_reducible refine gate_callee (f := 13) rfl ?_); refine goesL_ (some 19) rfl rfl Tryd.func13 (by kernel_rfl) rfl #[.int .u64 4609434218613702656, .int .i64 64] rfl lz ?_; (with_reducible refine (short_Parts.calls 4609434218613702656 64 t308 t309 t310 t311 _ A3.out).mono ?_); rintro e w14 ⟨rfl, hb⟩; refine ⟨_, rfl, ?_⟩; replace BK307 := kN (g := gb307) (cs := #[.string t304, .int .i64 t305]) hb bk; replace HB := bN bz hb; (try clear hb); (try clear hb2); (try clear hk); (try clear hi); obtain ⟨hcz15_0, hcz15_1, hfz15_0, hfz15_1⟩ := cz2 (W := w14) BK307))
       go_ret
       exact ⟨ez, bz⟩
      ·rw [if_neg c9] at H
       obtain ⟨c9b0, c9b1⟩ := eF c9
       obtain rfl := Option.some.inj H
       go_enter Tryd.func15, Tryd.ntmps15
       go_wp2_with (first | ((with_reducible refine gate_callee (f := 16) rfl ?_); refine goesL_ (some 11) rfl rfl Tryd.func16 (by kernel_rfl) rfl #[.agg #[.string (⟨#[49]⟩ : ByteArray), .int .i64 0], .int .i64 64] rfl lz ?_; (with_reducible refine (short_Read.calls k (⟨#[49]⟩ : ByteArray) 0 64 t302 t303 _ A1.out).mono ?_); rintro e w16 ⟨rfl, hb⟩; refine ⟨_, rfl, ?_⟩; replace HB := bN bz hb; (try clear hb); (try clear hb2); (try clear hk); (try clear hi)) | ((with_reducible refine gate_callee (f := 18) rfl ?_); refine goesL_ (some 15) rfl rfl Tryd.func18 (by kernel_rfl) rfl #[.int .u64 4591870180066957722, .int .i64 64] rfl lz ?_; (with_reducible refine (short_Shortest.calls k 4591870180066957722 64 t304 t305 t306 _ A2.out).mono ?_); rintro e w17 ⟨rfl, hb⟩; refine ⟨_, rfl, ?_⟩; replace HB := bN bz hb; (try clear hb); (try clear hb2); (try clear hk); (try clear hi)) | ((with_reducible refine gate_dst (N := 3) rfl ?_); refine box_event rfl (N := 3) rfl (cs := #[.string (⟨#[]⟩ : ByteArray), .int .i64 0]) (t := 28) gz ?_; intro gb307 hg w18 hbox hb; have GW307 := gN bz hg; have GE307 := gN bz hg; have BK307 := Aside0.mk hbox; replace HB := bN bz hb; clear hb hbox hg; obtain ⟨hcz19_0, hcz19_1, hfz19_0, hfz19_1⟩ := cz2 (W := w18) BK307) | ((with_reducible refine gate_callee (f := 13) rfl ?_); refine goesL_ (some 19) rfl rfl Tryd.func13 (by kernel_rfl) rfl #[.int .u64 4609434218613702656, .int .i64 64] rfl lz ?_; (with_reducible refine (short_Parts.calls 4609434218613702656 64 t308 t309 t310 t311 _ A3.out).mono ?_); rintro e w20 ⟨rfl, hb⟩; refine ⟨_, rfl, ?_⟩; replace BK307 := kN (g := gb307) (cs := #[.string t304, .int .i64 t305]) hb bk; replace HB := bN bz hb; (try clear hb); (try clear hb2); (try clear hk); (try clear hi); obtain ⟨hcz21_0, hcz21_1, hfz21_0, hfz21_1⟩ := cz2 (W := w20) BK307))
       go_ret
       exact ⟨ez, bz⟩
     ·rw [if_neg c8] at H
      obtain ⟨c8b0, c8b1⟩ := eF c8
      obtain rfl := Option.some.inj H
      go_enter Tryd.func15, Tryd.ntmps15
      go_wp2_with (first | ((with_reducible refine gate_callee (f := 16) rfl ?_); refine goesL_ (some 11) rfl rfl Tryd.func16 (by kernel_rfl) rfl #[.agg #[.string (⟨#[49]⟩ : ByteArray), .int .i64 0], .int .i64 64] rfl lz ?_; (with_reducible refine (short_Read.calls k (⟨#[49]⟩ : ByteArray) 0 64 t302 t303 _ A1.out).mono ?_); rintro e w22 ⟨rfl, hb⟩; refine ⟨_, rfl, ?_⟩; replace HB := bN bz hb; (try clear hb); (try clear hb2); (try clear hk); (try clear hi)) | ((with_reducible refine gate_callee (f := 18) rfl ?_); refine goesL_ (some 15) rfl rfl Tryd.func18 (by kernel_rfl) rfl #[.int .u64 4591870180066957722, .int .i64 64] rfl lz ?_; (with_reducible refine (short_Shortest.calls k 4591870180066957722 64 t304 t305 t306 _ A2.out).mono ?_); rintro e w23 ⟨rfl, hb⟩; refine ⟨_, rfl, ?_⟩; replace HB := bN bz hb; (try clear hb); (try clear hb2); (try clear hk); (try clear hi)) | ((with_reducible refine gate_dst (N := 3) rfl ?_); refine box_event rfl (N := 3) rfl (cs := #[.string (⟨#[]⟩ : ByteArray), .int .i64 0]) (t := 28) gz ?_; intro gb307 hg w24 hbox hb; have GW307 := gN bz hg; have GE307 := gN bz hg; have BK307 := Aside0.mk hbox; replace HB := bN bz hb; clear hb hbox hg; obtain ⟨hcz25_0, hcz25_1, hfz25_0, hfz25_1⟩ := cz2 (W := w24) BK307) | ((with_reducible refine gate_callee (f := 13) rfl ?_); refine goesL_ (some 19) rfl rfl Tryd.func13 (by kernel_rfl) rfl #[.int .u64 4609434218613702656, .int .i64 64] rfl lz ?_; (with_reducible refine (short_Parts.calls 4609434218613702656 64 t308 t309 t310 t311 _ A3.out).mono ?_); rintro e w26 ⟨rfl, hb⟩; refine ⟨_, rfl, ?_⟩; replace BK307 := kN (g := gb307) (cs := #[.string t304, .int .i64 t305]) hb bk; replace HB := bN bz hb; (try clear hb); (try clear hb2); (try clear hk); (try clear hi); obtain ⟨hcz27_0, hcz27_1, hfz27_0, hfz27_1⟩ := cz2 (W := w26) BK307))
      go_ret
      exact ⟨ez, bz⟩
    ·rw [if_neg c7] at H
     have c7b0 : (t304.toList == ([49] : List UInt8) && (t305 == 0)) = false := by simpa using c7
     (try (have c7b1 : decide (t304.toList = ([49] : List UInt8) && (t305 == 0)) = false := by simpa using c7))
     (try (have c7b2 : (t304.toList == ([49] : List UInt8) && (t305 == 0)) = false := by simpa using c7))
     (try (have c7b3 : ¬ (t304.toList = ([49] : List UInt8) && (t305 == 0)) := by simpa using c7))
     clear c7
     obtain rfl := Option.some.inj H
     go_enter Tryd.func15, Tryd.ntmps15
     go_wp2_with (first | ((with_reducible refine gate_callee (f := 16) rfl ?_); refine goesL_ (some 11) rfl rfl Tryd.func16 (by kernel_rfl) rfl #[.agg #[.string (⟨#[49]⟩ : ByteArray), .int .i64 0], .int .i64 64] rfl lz ?_; (with_reducible refine (short_Read.calls k (⟨#[49]⟩ : ByteArray) 0 64 t302 t303 _ A1.out).mono ?_); rintro e w28 ⟨rfl, hb⟩; refine ⟨_, rfl, ?_⟩; replace HB := bN bz hb; (try clear hb); (try clear hb2); (try clear hk); (try clear hi)) | ((with_reducible refine gate_callee (f := 18) rfl ?_); refine goesL_ (some 15) rfl rfl Tryd.func18 (by kernel_rfl) rfl #[.int .u64 4591870180066957722, .int .i64 64] rfl lz ?_; (with_reducible refine (short_Shortest.calls k 4591870180066957722 64 t304 t305 t306 _ A2.out).mono ?_); rintro e w29 ⟨rfl, hb⟩; refine ⟨_, rfl, ?_⟩; replace HB := bN bz hb; (try clear hb); (try clear hb2); (try clear hk); (try clear hi)) | ((with_reducible refine gate_dst (N := 3) rfl ?_); refine box_event rfl (N := 3) rfl (cs := #[.string (⟨#[]⟩ : ByteArray), .int .i64 0]) (t := 28) gz ?_; intro gb307 hg w30 hbox hb; have GW307 := gN bz hg; have GE307 := gN bz hg; have BK307 := Aside0.mk hbox; replace HB := bN bz hb; clear hb hbox hg; obtain ⟨hcz31_0, hcz31_1, hfz31_0, hfz31_1⟩ := cz2 (W := w30) BK307) | ((with_reducible refine gate_callee (f := 13) rfl ?_); refine goesL_ (some 19) rfl rfl Tryd.func13 (by kernel_rfl) rfl #[.int .u64 4609434218613702656, .int .i64 64] rfl lz ?_; (with_reducible refine (short_Parts.calls 4609434218613702656 64 t308 t309 t310 t311 _ A3.out).mono ?_); rintro e w32 ⟨rfl, hb⟩; refine ⟨_, rfl, ?_⟩; replace BK307 := kN (g := gb307) (cs := #[.string t304, .int .i64 t305]) hb bk; replace HB := bN bz hb; (try clear hb); (try clear hb2); (try clear hk); (try clear hi); obtain ⟨hcz33_0, hcz33_1, hfz33_0, hfz33_1⟩ := cz2 (W := w32) BK307))
     go_ret
     exact ⟨ez, bz⟩
   ·rw [if_neg c6] at H
    obtain ⟨c6b0, c6b1⟩ := eF c6
    obtain rfl := Option.some.inj H
    go_enter Tryd.func15, Tryd.ntmps15
    go_wp2_with (first | ((with_reducible refine gate_callee (f := 16) rfl ?_); refine goesL_ (some 11) rfl rfl Tryd.func16 (by kernel_rfl) rfl #[.agg #[.string (⟨#[49]⟩ : ByteArray), .int .i64 0], .int .i64 64] rfl lz ?_; (with_reducible refine (short_Read.calls k (⟨#[49]⟩ : ByteArray) 0 64 t302 t303 _ A1.out).mono ?_); rintro e w34 ⟨rfl, hb⟩; refine ⟨_, rfl, ?_⟩; replace HB := bN bz hb; (try clear hb); (try clear hb2); (try clear hk); (try clear hi)) | ((with_reducible refine gate_callee (f := 18) rfl ?_); refine goesL_ (some 15) rfl rfl Tryd.func18 (by kernel_rfl) rfl #[.int .u64 4591870180066957722, .int .i64 64] rfl lz ?_; (with_reducible refine (short_Shortest.calls k 4591870180066957722 64 t304 t305 t306 _ A2.out).mono ?_); rintro e w35 ⟨rfl, hb⟩; refine ⟨_, rfl, ?_⟩; replace HB := bN bz hb; (try clear hb); (try clear hb2); (try clear hk); (try clear hi)) | ((with_reducible refine gate_dst (N := 3) rfl ?_); refine box_event rfl (N := 3) rfl (cs := #[.string (⟨#[]⟩ : ByteArray), .int .i64 0]) (t := 28) gz ?_; intro gb307 hg w36 hbox hb; have GW307 := gN bz hg; have GE307 := gN bz hg; have BK307 := Aside0.mk hbox; replace HB := bN bz hb; clear hb hbox hg; obtain ⟨hcz37_0, hcz37_1, hfz37_0, hfz37_1⟩ := cz2 (W := w36) BK307) | ((with_reducible refine gate_callee (f := 13) rfl ?_); refine goesL_ (some 19) rfl rfl Tryd.func13 (by kernel_rfl) rfl #[.int .u64 4609434218613702656, .int .i64 64] rfl lz ?_; (with_reducible refine (short_Parts.calls 4609434218613702656 64 t308 t309 t310 t311 _ A3.out).mono ?_); rintro e w38 ⟨rfl, hb⟩; refine ⟨_, rfl, ?_⟩; replace BK307 := kN (g := gb307) (cs := #[.string t304, .int .i64 t305]) hb bk; replace HB := bN bz hb; (try clear hb); (try clear hb2); (try clear hk); (try clear hi)))
    go_ret
    exact ⟨ez, bz⟩
  ·rw [if_neg c5] at H
   obtain ⟨c5b0, c5b1⟩ := eF c5
   obtain rfl := Option.some.inj H
   go_enter Tryd.func15, Tryd.ntmps15
   go_wp2_with (first | ((with_reducible refine gate_callee (f := 16) rfl ?_); refine goesL_ (some 11) rfl rfl Tryd.func16 (by kernel_rfl) rfl #[.agg #[.string (⟨#[49]⟩ : ByteArray), .int .i64 0], .int .i64 64] rfl lz ?_; (with_reducible refine (short_Read.calls k (⟨#[49]⟩ : ByteArray) 0 64 t302 t303 _ A1.out).mono ?_); rintro e w39 ⟨rfl, hb⟩; refine ⟨_, rfl, ?_⟩; replace HB := bN bz hb; (try clear hb); (try clear hb2); (try clear hk); (try clear hi)) | ((with_reducible refine gate_callee (f := 18) rfl ?_); refine goesL_ (some 15) rfl rfl Tryd.func18 (by kernel_rfl) rfl #[.int .u64 4591870180066957722, .int .i64 64] rfl lz ?_; (with_reducible refine (short_Shortest.calls k 4591870180066957722 64 t304 t305 t306 _ A2.out).mono ?_); rintro e w40 ⟨rfl, hb⟩; refine ⟨_, rfl, ?_⟩; replace HB := bN bz hb; (try clear hb); (try clear hb2); (try clear hk); (try clear hi)) | ((with_reducible refine gate_dst (N := 3) rfl ?_); refine box_event rfl (N := 3) rfl (cs := #[.string (⟨#[]⟩ : ByteArray), .int .i64 0]) (t := 28) gz ?_; intro gb307 hg w41 hbox hb; have GW307 := gN bz hg; have GE307 := gN bz hg; have BK307 := Aside0.mk hbox; replace HB := bN bz hb; clear hb hbox hg; obtain ⟨hcz42_0, hcz42_1, hfz42_0, hfz42_1⟩ := cz2 (W := w41) BK307) | ((with_reducible refine gate_callee (f := 13) rfl ?_); refine goesL_ (some 19) rfl rfl Tryd.func13 (by kernel_rfl) rfl #[.int .u64 4609434218613702656, .int .i64 64] rfl lz ?_; (with_reducible refine (short_Parts.calls 4609434218613702656 64 t308 t309 t310 t311 _ A3.out).mono ?_); rintro e w43 ⟨rfl, hb⟩; refine ⟨_, rfl, ?_⟩; replace BK307 := kN (g := gb307) (cs := #[.string t304, .int .i64 t305]) hb bk; replace HB := bN bz hb; (try clear hb); (try clear hb2); (try clear hk); (try clear hi)))
   go_ret
   exact ⟨ez, bz⟩
 ·rw [if_neg c4] at H
  obtain ⟨c4b0, c4b1⟩ := eF c4
  obtain rfl := Option.some.inj H
  go_enter Tryd.func15, Tryd.ntmps15
  go_wp2_with (first | ((with_reducible refine gate_callee (f := 16) rfl ?_); refine goesL_ (some 11) rfl rfl Tryd.func16 (by kernel_rfl) rfl #[.agg #[.string (⟨#[49]⟩ : ByteArray), .int .i64 0], .int .i64 64] rfl lz ?_; (with_reducible refine (short_Read.calls k (⟨#[49]⟩ : ByteArray) 0 64 t302 t303 _ A1.out).mono ?_); rintro e w44 ⟨rfl, hb⟩; refine ⟨_, rfl, ?_⟩; replace HB := bN bz hb; (try clear hb); (try clear hb2); (try clear hk); (try clear hi)) | ((with_reducible refine gate_callee (f := 18) rfl ?_); refine goesL_ (some 15) rfl rfl Tryd.func18 (by kernel_rfl) rfl #[.int .u64 4591870180066957722, .int .i64 64] rfl lz ?_; (with_reducible refine (short_Shortest.calls k 4591870180066957722 64 t304 t305 t306 _ A2.out).mono ?_); rintro e w45 ⟨rfl, hb⟩; refine ⟨_, rfl, ?_⟩; replace HB := bN bz hb; (try clear hb); (try clear hb2); (try clear hk); (try clear hi)) | ((with_reducible refine gate_dst (N := 3) rfl ?_); refine box_event rfl (N := 3) rfl (cs := #[.string (⟨#[]⟩ : ByteArray), .int .i64 0]) (t := 28) gz ?_; intro gb307 hg w46 hbox hb; have GW307 := gN bz hg; have GE307 := gN bz hg; have BK307 := Aside0.mk hbox; replace HB := bN bz hb; clear hb hbox hg; obtain ⟨hcz47_0, hcz47_1, hfz47_0, hfz47_1⟩ := cz2 (W := w46) BK307) | ((with_reducible refine gate_callee (f := 13) rfl ?_); refine goesL_ (some 19) rfl rfl Tryd.func13 (by kernel_rfl) rfl #[.int .u64 4609434218613702656, .int .i64 64] rfl lz ?_; (with_reducible refine (short_Parts.calls 4609434218613702656 64 t308 t309 t310 t311 _ A3.out).mono ?_); rintro e w48 ⟨rfl, hb⟩; refine ⟨_, rfl, ?_⟩; replace BK307 := kN (g := gb307) (cs := #[.string t304, .int .i64 t305]) hb bk; replace HB := bN bz hb; (try clear hb); (try clear hb2); (try clear hk); (try clear hi)))
  go_ret
  exact ⟨ez, bz⟩
end Go.Proofs.YtmeapdchnnpceaaDoor.Fn
end
section
namespace Go.Proofs.YtmeapdchnnpceaaDoor.Pure
open Go.RowKit Go.Proofs.YtmeapdchnnpceaaDoorW.PrintWords Go.Proofs.YtmeapdchnnpceaaDoor.Fn
set_option linter.unusedVariables false
set_option linter.unusedSimpArgs false
theorem tenth_W : ∃ p, p + 1 = 4591870180066957722 ∧ p < 9218868437227405312 ∧ fW 52 p * 20 ≤ 2 ^ 1075 ∧ 2 ^ 1075 < fW 52 (p + 1) * 20 ∧ (fW 52 p + fW 52 (p + 1)) * 10 < 2 ^ 1075 := ⟨4591870180066957721, by decide +kernel⟩
theorem tenth_X (wide : Bool) : dX wide 1 (-1) * 10 = CC * 2 ^ uu wide := by
  have hv := vv_eq
  obtain ⟨u, hu⟩ : ∃ u, vv = u + 1 := ⟨vv - 1, by omega⟩
  unfold dX CC
  rw [hu, show (-1 + ((u + 1 : Nat) : Int)).toNat = u by omega, Nat.pow_succ, Nat.one_mul]
  rw [Nat.mul_assoc, Nat.mul_comm (2 ^ uu wide), ← Nat.mul_assoc]
theorem times10 {a X C L : Nat} (hX : X * 10 = C * L) (hC : 0 < C) : (a * (2 * C) ≤ X ↔ a * 20 ≤ L) ∧ (X < a * (2 * C) ↔ L < a * 20) ∧ (a * C < X ↔ a * 10 < L) := by
  have e1 : a * (2 * C) * 10 = C * (a * 20) := by
    rw [show (20 : Nat) = 2 * 10 from rfl]
    simp only [Nat.mul_assoc, Nat.mul_comm, Nat.mul_left_comm]
  have e2 : a * C * 10 = C * (a * 10) := by simp only [Nat.mul_assoc, Nat.mul_comm, Nat.mul_left_comm]
  refine ⟨?_, ?_, ?_⟩
  · rw [← Nat.mul_le_mul_right_iff (show 0 < 10 by decide), e1, hX, Nat.mul_le_mul_left_iff hC]
  · rw [← Nat.mul_lt_mul_right (show 0 < 10 by decide), e1, hX, Nat.mul_lt_mul_left hC]
  · rw [← Nat.mul_lt_mul_right (show 0 < 10 by decide), e2, hX, Nat.mul_lt_mul_left hC]
theorem tenth_read : rdX true (dX true 1 (-1)) = 4591870180066957722 := by
  obtain ⟨p, hp, hi, w1, w2, w3⟩ := tenth_W
  have hX := tenth_X true
  have hu : uu true = 1075 := rfl
  have hf : ff true = 52 := rfl
  have hii : ii true = 9218868437227405312 := rfl
  obtain ⟨L, hL⟩ : ∃ L, 2 ^ 1075 = L := ⟨_, rfl⟩
  rw [hu, hL] at hX
  rw [hL] at w1 w2 w3
  have hfl : fFloor (ff true) (ii true) (dX true 1 (-1)) (2 * CC) p := by
    rw [hf, hii]
    exact ⟨Nat.le_of_lt hi, (times10 hX CC_pos).1.2 w1, fun _ => (times10 hX CC_pos).2.1.2 w2⟩
  rw [rd_at true hfl, if_neg (by omega), hf, if_pos (.inl ((times10 hX CC_pos).2.2.2 w3))]
  exact hp
def tenthL : List UInt8 := [49,48,48,48,48,48,48,48,48,48,48,48,48,48,48,48,48,53,53,53,49,49,49,53,49,50,51,49,50,53,55,56,50,55,48,50,49,49,56,49,53,56,51,52,48,52,53,52,49,48,49,53,54,50,53]
theorem tenth_v : exV true 4591870180066957722 = (tenthL, 0) := by decide +kernel
theorem tenth_short : shortD true 4591870180066957722 = ([49], 0) := by
  unfold shortD
  rw [tenth_v]
  have hl : tenthL.length = 54 + 1 := by decide
  show shortGo true _ (tenthL, 0) tenthL.length 1 = _
  have hn : nearU (tenthL, 0) 1 = 1 := by decide +kernel
  have hE : cE (tenthL, 0) 1 = -1 := by unfold cE; rfl
  have hb : bestD true 4591870180066957722 (tenthL, 0) 1 = some ([49], 0) := by
    unfold bestD
    rw [if_neg (by rw [hl]; decide), hn, hE, if_pos (show isP true 4591870180066957722 1 (-1) from tenth_read)]
    rfl
  rw [hl, shortGo_step, hb]
  rfl
theorem short_tenth : shortS true 4591870180066957722 = (S [49], 0, 0) := by
  have hb : bareN true 4591870180066957722 = 4591870180066957722 := by decide
  unfold shortS
  rw [hb, if_neg (by decide), if_neg (by decide), tenth_short]
theorem read_tenth : rdS true (S [49]) 0 = (4591870180066957722, 0) := by
  have h1 : InForm ([49] : List UInt8) 0 := ⟨allD_one, fun c t h => by
    injection h with h1 h2
    rw [← h1]; decide, rfl, fun h => by cases h⟩
  rw [rdS_five true h1 (by decide)]
  have : dX true (val [49]) (0 - (([49] : List UInt8).length : Int)) = dX true 1 (-1) := by rw [val_one]; rfl
  rw [this, tenth_read]
  rfl
theorem parts_ex : partsS true 4609434218613702656 = (false, 6755399441055744, -52, 0) := by decide +kernel
theorem lives5 : Ev (fun k => platenlaw05_lives.f k) true := by
  have h1 := read_eq true (S [49]) 0
  rw [read_tenth] at h1
  have h2 := shortest_eq true 4591870180066957722 (by decide)
  rw [short_tenth] at h2
  have h3 := parts_eq true 4609434218613702656 (by decide)
  rw [parts_ex] at h3
  unfold platenlaw05_lives.f
  refine Ev.bind (g := fun k => short_Read.f k (⟨#[49]⟩ : ByteArray) 0 64) h1 ?_
  refine Ev.bind (g := fun k => short_Shortest.f k 4591870180066957722 64) h2 ?_
  refine Ev.congr (fun k => ?_) (Ev.now _)
  rw [show short_Parts.f 4609434218613702656 64 = some (false, 6755399441055744, -52, 0) from h3]
  simp [toList_L, L_S]
theorem livesEnd : Ev (fun k => (platenlaw05_lives.f k).bind fun t => some t) true := Ev.bind lives5 (Ev.now _)
theorem wf_u64 {a : Int} (h : (Lit.int .u64 a).wf = true) : ∃ n : Nat, a = n ∧ n < 18446744073709551616 := by
  have h2 : 0 ≤ a ∧ a < 18446744073709551616 := by
    simp [Lit.wf, IntKind.min, IntKind.max, IntKind.bits, IntKind.signed] at h
    omega
  exact ⟨a.toNat, by omega, by omega⟩
end Go.Proofs.YtmeapdchnnpceaaDoor.Pure
end
section
namespace Go.Proofs.YtmeapdchnnpceaaDoor.Fn
open Go.RowKit Go.Proofs.YtmeapdchnnpceaaDoorW.PrintWords Go.Proofs.YtmeapdchnnpceaaDoorW.PrintLast Go.Proofs.YtmeapdchnnpceaaDoorW.PrintMore
attribute [local go_sem] min2_int min_two
set_option linter.unusedVariables false
set_option linter.unusedSimpArgs false
def platenlaw05_exact.f (k : Nat) (a0 : Int) (a1 : Int) : Option (ByteArray × Int) := (short_Parts.f a0 a1).bind fun bt547 => ((bigdec_Exact.f k bt547.2.1 bt547.2.2.1).bind fun bt551 => (some (bt551.1, bt551.2.1)))
set_option maxHeartbeats 8000000 in
set_option maxRecDepth 100000 in
theorem platenlaw05_exact.calls (k : Nat) (a0 : Int) (a1 : Int) (r1 : ByteArray) (r2 : Int) (w : World) (h : platenlaw05_exact.f k a0 a1 = some (r1, r2)) :
  Calls Tryd.prog 22 #[.int .u64 a0, .int .i64 a1] w fun e w' => e = .returned (.agg #[.string r1, .int .i64 r2]) ∧ Below w.heap.size w w' := by
 have hu28 := Tryd.underlying28
 have HB := Aside0.mk (Below.refl w.heap.size w)
 have H : ((short_Parts.f a0 a1).bind fun bt547 => ((bigdec_Exact.f k bt547.2.1 bt547.2.2.1).bind fun bt551 => (some (bt551.1, bt551.2.1)))) = some (r1, r2) := h
 clear h
 replace H := bs H
 obtain ⟨⟨t547, t548, t549, t550⟩, A3, H⟩ := H
 dsimp only at H
 replace H := bs H
 obtain ⟨⟨t551, t552, t553⟩, A4, H⟩ := H
 dsimp only at H
 simp only [Option.some.injEq, Prod.mk.injEq] at H
 obtain ⟨rfl, rfl⟩ := H
 go_enter Tryd.func22, Tryd.ntmps22
 go_wp2_with (first | ((with_reducible refine gate_dst (N := 4) rfl ?_); refine box_event rfl (N := 4) rfl (cs := #[.string (⟨#[]⟩ : ByteArray), .int .i64 0]) (t := 28) gz ?_; intro gb546 hg w5 hbox hb; have GE546 := gN bz hg; have BK546 := Aside0.mk hbox; replace HB := bN bz hb; clear hb hbox hg) | ((with_reducible refine gate_callee (f := 13) rfl ?_); refine goesL_ (some 14) rfl rfl Tryd.func13 (by kernel_rfl) rfl #[.int .u64 a0, .int .i64 a1] rfl lz ?_; (with_reducible refine (short_Parts.calls a0 a1 t547 t548 t549 t550 _ A3.out).mono ?_); rintro e w6 ⟨rfl, hb⟩; refine ⟨_, rfl, ?_⟩; replace BK546 := kN (g := gb546) (cs := #[.string (⟨#[]⟩ : ByteArray), .int .i64 0]) hb bk; replace HB := bN bz hb; (try clear hb); (try clear hb2); (try clear hk); (try clear hi)) | ((with_reducible refine gate_callee (f := 25) rfl ?_); refine goesL_ (some 22) rfl rfl Tryd.func25 (by kernel_rfl) rfl #[.int .u64 t548, .int .i64 t549] rfl lz ?_; (with_reducible refine (bigdec_Exact.calls k t548 t549 t551 t552 t553 _ A4.out).mono ?_); rintro e w7 ⟨rfl, hb⟩; refine ⟨_, rfl, ?_⟩; replace BK546 := kN (g := gb546) (cs := #[.string (⟨#[]⟩ : ByteArray), .int .i64 0]) hb bk; replace HB := bN bz hb; (try clear hb); (try clear hb2); (try clear hk); (try clear hi)) | ((with_reducible refine gate_dst (N := 9) rfl ?_); refine box_event rfl (N := 9) rfl (cs := #[.string (⟨#[]⟩ : ByteArray), .int .i64 0]) (t := 28) gz ?_; intro gb554 hg w8 hbox hb; have GE554 := gN bz hg; have NB546_554 := lN (g := gb546) (cs := #[.string (⟨#[]⟩ : ByteArray), .int .i64 0]) hg bk; have NB554_546 := rN (g := gb546) (cs := #[.string (⟨#[]⟩ : ByteArray), .int .i64 0]) hg bk; replace BK546 := kN (g := gb546) (cs := #[.string (⟨#[]⟩ : ByteArray), .int .i64 0]) hb bk; have BK554 := Aside0.mk hbox; replace HB := bN bz hb; clear hb hbox hg; have hnb9 := NB554_546.out; have hnc9 := NB546_554.out; obtain ⟨hcz10_0, hcz10_1, hfz10_0, hfz10_1⟩ := cz2 (W := w8) BK554; obtain ⟨hcz11_0, hcz11_1, hfz11_0, hfz11_1⟩ := cz2 (W := w8) BK546))
 refine bodyPost_ret (results_cell_row rfl _ _ gb546 28 #[.string t551, .int .i64 t552] (0, 0) _ rfl bk Tryd.underlying28 rfl (by kernel_rfl)) rfl ?_
 exact ⟨ez, bz⟩
end Go.Proofs.YtmeapdchnnpceaaDoor.Fn
end
section
namespace Go.Proofs.YtmeapdchnnpceaaDoor.Pure
open Go.RowKit Go.Proofs.YtmeapdchnnpceaaDoorW.PrintWords Go.Proofs.YtmeapdchnnpceaaDoor.Fn
set_option linter.unusedVariables false
set_option linter.unusedSimpArgs false
theorem sized_law (wide : Bool) : platenlaw05_sized.f wide = some (szB wide) := by cases wide <;> rfl
theorem finite_eq (wide : Bool) (a : Nat) (ha : a < 18446744073709551616) : ∃ p : Nat, platenlaw05_finite.f (a : Int) (szB wide) = some (p : Int) ∧ p < ii wide := by
  cases wide
  · have hm := and_mask 31 a (by omega) ha
    have e : ((2 ^ 31 - 1 : Nat) : Int) = 2147483647 := rfl
    rw [e] at hm
    have hb : a % 2 ^ 31 < 2147483648 := Nat.mod_lt _ (by decide)
    unfold platenlaw05_finite.f szB ii
    simp only [Bool.false_eq_true, if_false, if_true]
    rw [hm]
    generalize a % 2 ^ 31 = q at *
    by_cases c : (q : Int) ≥ 2139095040
    · refine ⟨q - 2139095040, ?_, by omega⟩
      rw [if_pos c, show ((q : Int) - 2139095040) = ((q - 2139095040 : Nat) : Int) by omega, u64N _ (by omega)]
    · exact ⟨q, by rw [if_neg c], by omega⟩
  · have hm := and_mask 63 a (by omega) ha
    have e : ((2 ^ 63 - 1 : Nat) : Int) = 9223372036854775807 := rfl
    rw [e] at hm
    have hb : a % 2 ^ 63 < 9223372036854775808 := Nat.mod_lt _ (by decide)
    unfold platenlaw05_finite.f szB ii
    simp only [if_true]
    rw [if_neg (by decide), hm]
    generalize a % 2 ^ 63 = q at *
    by_cases c : (q : Int) ≥ 9218868437227405312
    · refine ⟨q - 9218868437227405312, ?_, by omega⟩
      rw [if_pos c, show ((q : Int) - 9218868437227405312) = ((q - 9218868437227405312 : Nat) : Int) by omega, u64N _ (by omega)]
    · exact ⟨q, by rw [if_neg c], by omega⟩
theorem bare_fin (wide : Bool) {p : Nat} (hp : p < ii wide) : bareN wide p = p := by
  have := (ii_lt wide).2.1
  exact Nat.mod_eq_of_lt (by omega)
theorem parts_fin (wide : Bool) {p : Nat} (hp : p < ii wide) : short_Parts.f (p : Int) (szB wide) = some (false, (fM (ff wide) p : Int), (fE (ff wide) p : Int) - (ll wide : Int), 0) := by
  have hi := ii_lt wide
  rw [parts_eq wide p (by omega)]
  unfold partsS
  rw [bare_fin wide hp, if_pos hp, Nat.div_eq_of_lt (by omega)]
  rfl
theorem exact_fin (wide : Bool) {p : Nat} (hp : p < ii wide) : Ev (fun k => bigdec_Exact.f k (fM (ff wide) p : Int) ((fE (ff wide) p : Int) - (ll wide : Int))) (S (exV wide p).1, (exV wide p).2, 0) := by
  have h1 := fEl wide (Nat.le_of_lt hp)
  have h2 := fE_le wide (Nat.le_of_lt hp)
  have h := exact_eq (fM (ff wide) p) ((fE (ff wide) p : Int) - (ll wide : Int)) (by omega)
  rw [exactS_exD _ (by omega)] at h
  exact h
theorem exactLaw_ev (wide : Bool) {p : Nat} (hp : p < ii wide) : Ev (fun k => platenlaw05_exact.f k (p : Int) (szB wide)) (S (exV wide p).1, (exV wide p).2) := by
  unfold platenlaw05_exact.f
  rw [parts_fin wide hp]
  simp only [Option.bind_some]
  exact Ev.bind (f := fun _ bt => some (bt.1, bt.2.1)) (exact_fin wide hp) (Ev.now _)
theorem exV_X (wide : Bool) {p : Nat} (hp : p < ii wide) : dX wide (val (exV wide p).1) ((exV wide p).2 - (exV wide p).1.length) = fW (ff wide) p * (2 * CC) := by
  have hv := exV_val wide hp
  have h1 := hv.len
  have h2 := hv.lo
  have h3 := vv_eq
  have hc := cmp_pattern wide (Nat.le_of_lt hp) (l := (exV wide p).1) (q := (exV wide p).2) hv.form (by omega)
  have h0 : cmpD (exV wide p).1 (exV wide p).2 (exV wide p).1 (exV wide p).2 = 0 := by
    unfold cmpD
    exact cmpN_self _
  have hc2 : cmpD (exV wide p).1 (exV wide p).2 (exV wide p).1 (exV wide p).2 = cmpN (fW (ff wide) p * (2 * CC)) (dX wide (val (exV wide p).1) ((exV wide p).2 - (exV wide p).1.length)) := hc
  rw [h0] at hc2
  exact ((cmpN_zero _ _).1 hc2.symm).symm
theorem rd_exact (wide : Bool) {p : Nat} (hp : p < ii wide) : rdX wide (fW (ff wide) p * (2 * CC)) = p := by
  have hC := CC_pos
  have m := mid_between (fW_lt (f := ff wide) (Nat.lt_succ_self p)) hC
  simp only [Nat.succ_eq_add_one] at m
  have hfl : fFloor (ff wide) (ii wide) (fW (ff wide) p * (2 * CC)) (2 * CC) p := ⟨Nat.le_of_lt hp, Nat.le_refl _, fun _ => Nat.lt_trans m.1 m.2⟩
  rw [rd_at wide hfl, if_neg (Nat.ne_of_lt hp), if_neg]
  rintro (h | h)
  · exact Nat.lt_asymm h m.1
  · exact absurd h.1 (Nat.ne_of_lt m.1)
theorem read_exact (wide : Bool) {p : Nat} (hp : p < ii wide) : rdS wide (S (exV wide p).1) (exV wide p).2 = ((p : Int), 0) := by
  have hv := exV_val wide hp
  rw [rdS_five wide hv.form hv.five, exV_X wide hp, rd_exact wide hp]
end Go.Proofs.YtmeapdchnnpceaaDoor.Pure
end
section
namespace Go.Proofs.YtmeapdchnnpceaaDoor.Pure
open Go.RowKit Go.Proofs.YtmeapdchnnpceaaDoorW.PrintWords Go.Proofs.YtmeapdchnnpceaaDoor.Fn
set_option linter.unusedVariables false
set_option linter.unusedSimpArgs false
theorem go_spec (wide : Bool) (p : Nat) (v : List UInt8 × Int) : ∀ d n, v.1.length ≤ n + d → ∃ N, n ≤ N ∧ bestD wide p v N = some (shortGo wide p v d n) ∧ ∀ j, n ≤ j → j < N → bestD wide p v j = none := by
  intro d
  induction d with
  | zero =>
    intro n h
    exact ⟨n, Nat.le_refl _, best_all wide p v h, fun j h1 h2 => absurd h1 (Nat.not_le.2 h2)⟩
  | succ d ih =>
    intro n h
    rw [shortGo_step]
    cases hb : bestD wide p v n with
    | some r => exact ⟨n, Nat.le_refl _, hb, fun j h1 h2 => absurd h1 (Nat.not_le.2 h2)⟩
    | none =>
      obtain ⟨N, h1, h2, h3⟩ := ih (n + 1) (by omega)
      refine ⟨N, by omega, h2, fun j h4 h5 => ?_⟩
      by_cases c : j = n
      · rw [c]; exact hb
      · exact h3 j (by omega) h5
theorem short_spec (wide : Bool) (p : Nat) : ∃ N, 1 ≤ N ∧ bestD wide p (exV wide p) N = some (shortD wide p) ∧ ∀ j, 1 ≤ j → j < N → bestD wide p (exV wide p) j = none :=
  go_spec wide p (exV wide p) (exV wide p).1.length 1 (Nat.le_add_left _ _)
theorem best_some {wide : Bool} {p : Nat} {v d : List UInt8 × Int} {n : Nat} (h : bestD wide p v n = some d) : (v.1.length ≤ n ∧ d = v) ∨ (n < v.1.length ∧ ∃ u, (u = cU v n ∨ u = cU v n + 1) ∧ d = decOf u (cE v n) ∧ isP wide p u (cE v n)) := by
  unfold bestD at h
  by_cases c1 : v.1.length ≤ n
  · rw [if_pos c1] at h
    exact .inl ⟨c1, (Option.some.inj h).symm⟩
  · rw [if_neg c1] at h
    refine .inr ⟨Nat.lt_of_not_le c1, ?_⟩
    by_cases c2 : isP wide p (nearU v n) (cE v n)
    · rw [if_pos c2] at h
      exact ⟨_, nearU_two v n, (Option.some.inj h).symm, c2⟩
    · rw [if_neg c2] at h
      by_cases c3 : isP wide p (cU v n) (cE v n)
      · rw [if_pos c3] at h
        exact ⟨_, .inl rfl, (Option.some.inj h).symm, c3⟩
      · rw [if_neg c3] at h
        by_cases c4 : isP wide p (cU v n + 1) (cE v n)
        · rw [if_pos c4] at h
          exact ⟨_, .inr rfl, (Option.some.inj h).symm, c4⟩
        · rw [if_neg c4] at h
          cases h
theorem best_none {wide : Bool} {p : Nat} {v : List UInt8 × Int} {n : Nat} (h : bestD wide p v n = none) : n < v.1.length ∧ ¬ isP wide p (nearU v n) (cE v n) ∧ ¬ isP wide p (cU v n) (cE v n) ∧ ¬ isP wide p (cU v n + 1) (cE v n) := by
  unfold bestD at h
  by_cases c1 : v.1.length ≤ n
  · rw [if_pos c1] at h; cases h
  · rw [if_neg c1] at h
    refine ⟨Nat.lt_of_not_le c1, ?_⟩
    by_cases c2 : isP wide p (nearU v n) (cE v n)
    · rw [if_pos c2] at h; cases h
    · rw [if_neg c2] at h
      by_cases c3 : isP wide p (cU v n) (cE v n)
      · rw [if_pos c3] at h; cases h
      · rw [if_neg c3] at h
        by_cases c4 : isP wide p (cU v n + 1) (cE v n)
        · rw [if_pos c4] at h; cases h
        · exact ⟨c2, c3, c4⟩
theorem dec_len {u n : Nat} {e : Int} (h : u ≤ 10 ^ n) (hn : 1 ≤ n) : (decOf u e).1.length ≤ n := by
  by_cases c : u < 10 ^ n
  · exact (decOf_bound c e).1
  · have e1 : u = 1 * 10 ^ n := by omega
    have h2 := decOf_scale 1 n (e + n)
    rw [Int.add_sub_cancel] at h2
    rw [e1, h2]
    exact Nat.le_trans (decOf_bound (n := 1) (m := 1) (by decide) (e + n)).1 hn
theorem best_len {wide : Bool} {p : Nat} {v d : List UInt8 × Int} (hv : Val wide p v) {n : Nat} (hn : 1 ≤ n) (h : bestD wide p v n = some d) : d.1.length ≤ n := by
  rcases best_some h with ⟨h1, rfl⟩ | ⟨h1, u, h2, rfl, _⟩
  · exact h1
  · have := (cand hv h1).1
    exact dec_len (by rcases h2 with h2 | h2 <;> omega) hn
theorem best_read {wide : Bool} {p : Nat} {d : List UInt8 × Int} (hp : p < ii wide) {n : Nat} (h : bestD wide p (exV wide p) n = some d) : rdS wide (S d.1) d.2 = ((p : Int), 0) := by
  have hv := exV_val wide hp
  rcases best_some h with ⟨h1, rfl⟩ | ⟨h1, u, h2, rfl, h3⟩
  · exact read_exact wide hp
  · obtain ⟨g1, g2, g3, g4, g5, g6, g7⟩ := cand hv h1
    have hu : u < 10 ^ (n + 1) := by
      have : 10 ^ n ≤ 10 ^ (n + 1) := Nat.pow_le_pow_right (by decide) (Nat.le_succ n)
      rcases h2 with h2 | h2 <;> omega
    rw [rdS_dec wide hu g4 g5 g7]
    rw [show rdX wide (dX wide u (cE (exV wide p) n)) = p from h3]
theorem rd_cand {wide : Bool} {p : Nat} (hp : p < ii wide) {n u : Nat} (hn : n < (exV wide p).1.length) (hu : u = cU (exV wide p) n ∨ u = cU (exV wide p) n + 1) :
    rdS wide (S (decOf u (cE (exV wide p) n)).1) (decOf u (cE (exV wide p) n)).2 = ((rdX wide (dX wide u (cE (exV wide p) n)) : Int), 0) := by
  obtain ⟨g1, g2, g3, g4, g5, g6, g7⟩ := cand (exV_val wide hp) hn
  have hu : u < 10 ^ (n + 1) := by
    have : 10 ^ n ≤ 10 ^ (n + 1) := Nat.pow_le_pow_right (by decide) (Nat.le_succ n)
    rcases hu with h2 | h2 <;> omega
  exact rdS_dec wide hu g4 g5 g7
end Go.Proofs.YtmeapdchnnpceaaDoor.Pure
end
section
namespace Go.Proofs.YtmeapdchnnpceaaDoor.Pure
open Go.RowKit Go.Proofs.YtmeapdchnnpceaaDoorW.PrintWords Go.Proofs.YtmeapdchnnpceaaDoor.Fn
set_option linter.unusedVariables false
set_option linter.unusedSimpArgs false
theorem shortS_fin (wide : Bool) {p : Nat} (hp : p < ii wide) : shortS wide p = if p = 0 then (⟨#[]⟩, 0, 0) else (S (shortD wide p).1, (shortD wide p).2, 0) := by
  unfold shortS
  rw [bare_fin wide hp, if_neg (by omega)]
theorem read_zero (wide : Bool) : rdS wide (⟨#[]⟩ : ByteArray) 0 = (0, 0) := by
  have h := exV_val wide (p := 0) (by cases wide <;> decide)
  have h2 := read_exact wide (p := 0) (by cases wide <;> decide)
  have e : exV wide 0 = ([], 0) := by
    unfold exV exD
    rw [show fM (ff wide) 0 = 0 by cases wide <;> rfl, Nat.zero_mul]
    rfl
  rw [e] at h2
  exact h2
theorem short_err (wide : Bool) {p : Nat} (hp : p < ii wide) : (shortS wide p).2.2 = 0 := by
  rw [shortS_fin wide hp]; split <;> rfl
theorem ii_two (wide : Bool) : ii wide < 18446744073709551616 := by cases wide <;> decide
end Go.Proofs.YtmeapdchnnpceaaDoor.Pure
end
section
namespace Go.Proofs.YtmeapdchnnpceaaDoor.Fn
open Go.RowKit Go.Proofs.YtmeapdchnnpceaaDoorW.PrintWords Go.Proofs.YtmeapdchnnpceaaDoorW.PrintLast Go.Proofs.YtmeapdchnnpceaaDoorW.PrintMore
attribute [local go_sem] min2_int min_two
set_option linter.unusedVariables false
set_option linter.unusedSimpArgs false
attribute [local go_sem high] eqA28
def platenlaw05_ShortClosest.f (k : Nat) (a0 : Int) (a1 : Bool) : Option (Bool) := (platenlaw05_sized.f a1).bind fun t576 => ((platenlaw05_finite.f a0 t576).bind fun t577 => ((platenlaw05_sized.f a1).bind fun t578 => ((short_Shortest.f k t577 t578).bind fun bt579 => (if bt579.2.2 = 0 then ((platenlaw05_exact.f k t577 t578).bind fun bt583 => ((bigdec_Round.f k bt583.1 bt583.2 (bt579.1.size : Int)).bind fun bt586 => (if bt586.2.2 = 0 then (if (bt586.1.toList == bt579.1.toList && (bt586.2.1 == bt579.2.1)) = true then ((platenlaw05_lives.f k).bind fun t590 => (some t590)) else ((short_Read.f k bt586.1 bt586.2.1 t578).bind fun bt591 => (if bt591.2 = 0 then (if bt591.1 = t577 then (some false) else ((platenlaw05_lives.f k).bind fun t593 => (some t593))) else (some false)))) else (some false)))) else (some false)))))
set_option maxHeartbeats 8000000 in
set_option maxRecDepth 100000 in
theorem platenlaw05_ShortClosest.calls (k : Nat) (a0 : Int) (a1 : Bool) (r : Bool) (w : World) (h : platenlaw05_ShortClosest.f k a0 a1 = some r) :
  Calls Tryd.prog 8 #[.int .u64 a0, .bool a1] w fun e w' => e = .returned (.bool r) ∧ Below w.heap.size w w' := by
 have hu28 := Tryd.underlying28
 have HB := Aside0.mk (Below.refl w.heap.size w)
 have H : ((platenlaw05_sized.f a1).bind fun t576 => ((platenlaw05_finite.f a0 t576).bind fun t577 => ((platenlaw05_sized.f a1).bind fun t578 => ((short_Shortest.f k t577 t578).bind fun bt579 => (if bt579.2.2 = 0 then ((platenlaw05_exact.f k t577 t578).bind fun bt583 => ((bigdec_Round.f k bt583.1 bt583.2 (bt579.1.size : Int)).bind fun bt586 => (if bt586.2.2 = 0 then (if (bt586.1.toList == bt579.1.toList && (bt586.2.1 == bt579.2.1)) = true then ((platenlaw05_lives.f k).bind fun t590 => (some t590)) else ((short_Read.f k bt586.1 bt586.2.1 t578).bind fun bt591 => (if bt591.2 = 0 then (if bt591.1 = t577 then (some false) else ((platenlaw05_lives.f k).bind fun t593 => (some t593))) else (some false)))) else (some false)))) else (some false)))))) = some r := h
 clear h
 replace H := bs H
 obtain ⟨t576, A3, H⟩ := H
 replace H := bs H
 obtain ⟨t577, A4, H⟩ := H
 replace H := bs H
 obtain ⟨t578, A5, H⟩ := H
 replace H := bs H
 obtain ⟨⟨t579, t580, t581⟩, A6, H⟩ := H
 dsimp only at H
 go_enter Tryd.func8, Tryd.ntmps8
 go_upto_if 26 with (first | ((with_reducible refine gate_callee (f := 21) rfl ?_); refine goesL_ (some 15) rfl rfl Tryd.func21 (by kernel_rfl) rfl #[.bool a1] rfl lz ?_; (with_reducible refine (platenlaw05_sized.calls a1 t576 _ A3.out).mono ?_); rintro e w' ⟨rfl, ⟨nd, rfl⟩⟩; refine ⟨_, rfl, ?_⟩) | ((with_reducible refine gate_callee (f := 20) rfl ?_); refine goesL_ (some 16) rfl rfl Tryd.func20 (by kernel_rfl) rfl #[.int .u64 a0, .int .i64 t576] rfl lz ?_; (with_reducible refine (platenlaw05_finite.calls a0 t576 t577 _ A4.out).mono ?_); rintro e w' ⟨rfl, ⟨nd, rfl⟩⟩; refine ⟨_, rfl, ?_⟩) | ((with_reducible refine gate_callee (f := 21) rfl ?_); refine goesL_ (some 18) rfl rfl Tryd.func21 (by kernel_rfl) rfl #[.bool a1] rfl lz ?_; (with_reducible refine (platenlaw05_sized.calls a1 t578 _ A5.out).mono ?_); rintro e w' ⟨rfl, ⟨nd, rfl⟩⟩; refine ⟨_, rfl, ?_⟩) | ((with_reducible refine gate_callee (f := 18) rfl ?_); refine goesL_ (some 22) rfl rfl Tryd.func18 (by kernel_rfl) rfl #[.int .u64 t577, .int .i64 t578] rfl lz ?_; (with_reducible refine (short_Shortest.calls k t577 t578 t579 t580 t581 _ A6.out).mono ?_); rintro e w7 ⟨rfl, hb⟩; refine ⟨_, rfl, ?_⟩; replace HB := bN bz hb; (try clear hb); (try clear hb2); (try clear hk); (try clear hi)) | ((with_reducible refine gate_dst (N := 7) rfl ?_); refine box_event rfl (N := 7) rfl (cs := #[.string (⟨#[]⟩ : ByteArray), .int .i64 0]) (t := 28) gz ?_; intro gb582 hg w8 hbox hb; have GE582 := gN bz hg; have BK582 := Aside0.mk hbox; replace HB := bN bz hb; clear hb hbox hg; obtain ⟨hcz9_0, hcz9_1, hfz9_0, hfz9_1⟩ := cz2 (W := w8) BK582))
 (try simp only [Act.put, List.setIfInBounds_toArray, List.set_cons_zero, List.set_cons_succ])
 by_cases c10 : t581 = 0
 ·rw [if_pos c10] at H
  obtain ⟨c10b0, c10b1⟩ := eT c10
  clear c10
  try first | rw [c10b0] | rw [c10b1]
  replace H := bs H
  obtain ⟨⟨t583, t584⟩, A11, H⟩ := H
  dsimp only at H
  replace H := bs H
  obtain ⟨⟨t586, t587, t588⟩, A12, H⟩ := H
  dsimp only at H
  go_upto_if 39 with (first | ((with_reducible refine gate_callee (f := 22) rfl ?_); refine goesL_ (some 29) rfl rfl Tryd.func22 (by kernel_rfl) rfl #[.int .u64 t577, .int .i64 t578] rfl lz ?_; (with_reducible refine (platenlaw05_exact.calls k t577 t578 t583 t584 _ A11.out).mono ?_); rintro e w13 ⟨rfl, hb⟩; refine ⟨_, rfl, ?_⟩; replace BK582 := kN (g := gb582) (cs := #[.string t579, .int .i64 t580]) hb bk; replace HB := bN bz hb; (try clear hb); (try clear hb2); (try clear hk); (try clear hi)) | ((with_reducible refine gate_dst (N := 9) rfl ?_); refine box_event rfl (N := 9) rfl (cs := #[.string (⟨#[]⟩ : ByteArray), .int .i64 0]) (t := 28) gz ?_; intro gb585 hg w14 hbox hb; have GE585 := gN bz hg; have NB582_585 := lN (g := gb582) (cs := #[.string t579, .int .i64 t580]) hg bk; have NB585_582 := rN (g := gb582) (cs := #[.string t579, .int .i64 t580]) hg bk; replace BK582 := kN (g := gb582) (cs := #[.string t579, .int .i64 t580]) hb bk; have BK585 := Aside0.mk hbox; replace HB := bN bz hb; clear hb hbox hg; have hnb15 := NB585_582.out; have hnc15 := NB582_585.out; obtain ⟨hcz16_0, hcz16_1, hfz16_0, hfz16_1⟩ := cz2 (W := w14) BK585; obtain ⟨hcz17_0, hcz17_1, hfz17_0, hfz17_1⟩ := cz2 (W := w14) BK582) | ((with_reducible refine gate_callee (f := 24) rfl ?_); refine goesL_ (some 35) rfl rfl Tryd.func24 (by kernel_rfl) rfl #[.agg #[.string t583, .int .i64 t584], .int .i64 (t579.size : Int)] rfl lz ?_; (with_reducible refine (bigdec_Round.calls k t583 t584 (t579.size : Int) t586 t587 t588 _ A12.out).mono ?_); rintro e w18 ⟨rfl, hb⟩; refine ⟨_, rfl, ?_⟩; replace BK582 := kN (g := gb582) (cs := #[.string t579, .int .i64 t580]) hb bk; replace BK585 := kN (g := gb585) (cs := #[.string t583, .int .i64 t584]) hb bk; replace HB := bN bz hb; (try clear hb); (try clear hb2); (try clear hk); (try clear hi)) | ((with_reducible refine gate_dst (N := 10) rfl ?_); refine box_event rfl (N := 10) rfl (cs := #[.string (⟨#[]⟩ : ByteArray), .int .i64 0]) (t := 28) gz ?_; intro gb589 hg w19 hbox hb; have GE589 := gN bz hg; have NB582_589 := lN (g := gb582) (cs := #[.string t579, .int .i64 t580]) hg bk; have NB589_582 := rN (g := gb582) (cs := #[.string t579, .int .i64 t580]) hg bk; have NB585_589 := lN (g := gb585) (cs := #[.string t583, .int .i64 t584]) hg bk; have NB589_585 := rN (g := gb585) (cs := #[.string t583, .int .i64 t584]) hg bk; replace BK582 := kN (g := gb582) (cs := #[.string t579, .int .i64 t580]) hb bk; replace BK585 := kN (g := gb585) (cs := #[.string t583, .int .i64 t584]) hb bk; have BK589 := Aside0.mk hbox; replace HB := bN bz hb; clear hb hbox hg; have hnb20 := NB589_582.out; have hnc20 := NB582_589.out; have hnb21 := NB589_585.out; have hnc21 := NB585_589.out; obtain ⟨hcz22_0, hcz22_1, hfz22_0, hfz22_1⟩ := cz2 (W := w19) BK589))
  (try simp only [Act.put, List.setIfInBounds_toArray, List.set_cons_zero, List.set_cons_succ])
  by_cases c23 : t588 = 0
  ·rw [if_pos c23] at H
   obtain ⟨c23b0, c23b1⟩ := eT c23
   clear c23
   try first | rw [c23b0] | rw [c23b1]
   by_cases c24 : (t586.toList == t579.toList && (t587 == t580)) = true
   ·rw [if_pos c24] at H
    have c24b0 : (t586.toList == t579.toList && (t587 == t580)) = true := c24
    (try (have c24b1 : decide (t586.toList = t579.toList && (t587 == t580)) = true := by simpa using c24))
    (try (have c24b2 : (t586.toList == t579.toList && (t587 == t580)) = true := by simpa using c24))
    clear c24
    replace H := bs H
    obtain ⟨t590, A25, H⟩ := H
    obtain rfl := Option.some.inj H
    have hnb26 := NB589_582.out
    have hnc26 := NB582_589.out
    have hnb27 := NB589_585.out
    have hnc27 := NB585_589.out
    obtain ⟨hcz28_0, hcz28_1, hfz28_0, hfz28_1⟩ := cz2 (W := w19) BK589
    have hnb29 := NB582_585.out
    have hnc29 := NB585_582.out
    obtain ⟨hcz30_0, hcz30_1, hfz30_0, hfz30_1⟩ := cz2 (W := w19) BK582
    go_wp2_with (first | ((with_reducible refine gate_callee (f := 15) rfl ?_); refine goesL_ (some 43) rfl rfl Tryd.func15 (by kernel_rfl) rfl #[] rfl lz ?_; (with_reducible refine (platenlaw05_lives.calls k  t590 _ A25.out).mono ?_); rintro e w31 ⟨rfl, hb⟩; refine ⟨_, rfl, ?_⟩; replace BK582 := kN (g := gb582) (cs := #[.string t579, .int .i64 t580]) hb bk; replace BK585 := kN (g := gb585) (cs := #[.string t583, .int .i64 t584]) hb bk; replace BK589 := kN (g := gb589) (cs := #[.string t586, .int .i64 t587]) hb bk; replace HB := bN bz hb; (try clear hb); (try clear hb2); (try clear hk); (try clear hi)))
    go_ret
    exact ⟨ez, bz⟩
   ·rw [if_neg c24] at H
    have c24b0 : (t586.toList == t579.toList && (t587 == t580)) = false := by simpa using c24
    (try (have c24b1 : decide (t586.toList = t579.toList && (t587 == t580)) = false := by simpa using c24))
    (try (have c24b2 : (t586.toList == t579.toList && (t587 == t580)) = false := by simpa using c24))
    (try (have c24b3 : ¬ (t586.toList = t579.toList && (t587 == t580)) := by simpa using c24))
    clear c24
    replace H := bs H
    obtain ⟨⟨t591, t592⟩, A32, H⟩ := H
    dsimp only at H
    by_cases c33 : t592 = 0
    ·rw [if_pos c33] at H
     obtain ⟨c33b0, c33b1⟩ := eT c33
     clear c33
     by_cases c34 : t591 = t577
     ·rw [if_pos c34] at H
      obtain ⟨c34b0, c34b1⟩ := eT c34
      clear c34
      obtain rfl := Option.some.inj H
      have hnb35 := NB589_582.out
      have hnc35 := NB582_589.out
      have hnb36 := NB589_585.out
      have hnc36 := NB585_589.out
      obtain ⟨hcz37_0, hcz37_1, hfz37_0, hfz37_1⟩ := cz2 (W := w19) BK589
      have hnb38 := NB582_585.out
      have hnc38 := NB585_582.out
      obtain ⟨hcz39_0, hcz39_1, hfz39_0, hfz39_1⟩ := cz2 (W := w19) BK582
      go_wp2_with (first | ((with_reducible refine gate_callee (f := 16) rfl ?_); refine goesL_ (some 47) rfl rfl Tryd.func16 (by kernel_rfl) rfl #[.agg #[.string t586, .int .i64 t587], .int .i64 t578] rfl lz ?_; (with_reducible refine (short_Read.calls k t586 t587 t578 t591 t592 _ A32.out).mono ?_); rintro e w40 ⟨rfl, hb⟩; refine ⟨_, rfl, ?_⟩; replace BK582 := kN (g := gb582) (cs := #[.string t579, .int .i64 t580]) hb bk; replace BK585 := kN (g := gb585) (cs := #[.string t583, .int .i64 t584]) hb bk; replace BK589 := kN (g := gb589) (cs := #[.string t586, .int .i64 t587]) hb bk; replace HB := bN bz hb; (try clear hb); (try clear hb2); (try clear hk); (try clear hi)))
      go_ret
      exact ⟨ez, bz⟩
     ·rw [if_neg c34] at H
      obtain ⟨c34b0, c34b1⟩ := eF c34
      replace H := bs H
      obtain ⟨t593, A41, H⟩ := H
      obtain rfl := Option.some.inj H
      have hnb42 := NB589_582.out
      have hnc42 := NB582_589.out
      have hnb43 := NB589_585.out
      have hnc43 := NB585_589.out
      obtain ⟨hcz44_0, hcz44_1, hfz44_0, hfz44_1⟩ := cz2 (W := w19) BK589
      have hnb45 := NB582_585.out
      have hnc45 := NB585_582.out
      obtain ⟨hcz46_0, hcz46_1, hfz46_0, hfz46_1⟩ := cz2 (W := w19) BK582
      go_wp2_with (first | ((with_reducible refine gate_callee (f := 16) rfl ?_); refine goesL_ (some 47) rfl rfl Tryd.func16 (by kernel_rfl) rfl #[.agg #[.string t586, .int .i64 t587], .int .i64 t578] rfl lz ?_; (with_reducible refine (short_Read.calls k t586 t587 t578 t591 t592 _ A32.out).mono ?_); rintro e w47 ⟨rfl, hb⟩; refine ⟨_, rfl, ?_⟩; replace BK582 := kN (g := gb582) (cs := #[.string t579, .int .i64 t580]) hb bk; replace BK585 := kN (g := gb585) (cs := #[.string t583, .int .i64 t584]) hb bk; replace BK589 := kN (g := gb589) (cs := #[.string t586, .int .i64 t587]) hb bk; replace HB := bN bz hb; (try clear hb); (try clear hb2); (try clear hk); (try clear hi)) | (go_at_call 15; (with_reducible refine (platenlaw05_lives.calls k  t593 _ A41.out).mono ?_); rintro e w48 ⟨rfl, hb⟩; replace BK582 := kN (g := gb582) (cs := #[.string t579, .int .i64 t580]) hb bk; replace BK585 := kN (g := gb585) (cs := #[.string t583, .int .i64 t584]) hb bk; replace BK589 := kN (g := gb589) (cs := #[.string t586, .int .i64 t587]) hb bk; replace HB := bN bz hb; (try clear hb); (try clear hb2); (try clear hk); (try clear hi)))
      go_ret
      exact ⟨ez, bz⟩
    ·rw [if_neg c33] at H
     obtain ⟨c33b0, c33b1⟩ := eF c33
     obtain rfl := Option.some.inj H
     have hnb49 := NB589_582.out
     have hnc49 := NB582_589.out
     have hnb50 := NB589_585.out
     have hnc50 := NB585_589.out
     obtain ⟨hcz51_0, hcz51_1, hfz51_0, hfz51_1⟩ := cz2 (W := w19) BK589
     have hnb52 := NB582_585.out
     have hnc52 := NB585_582.out
     obtain ⟨hcz53_0, hcz53_1, hfz53_0, hfz53_1⟩ := cz2 (W := w19) BK582
     go_wp2_with (first | ((with_reducible refine gate_callee (f := 16) rfl ?_); refine goesL_ (some 47) rfl rfl Tryd.func16 (by kernel_rfl) rfl #[.agg #[.string t586, .int .i64 t587], .int .i64 t578] rfl lz ?_; (with_reducible refine (short_Read.calls k t586 t587 t578 t591 t592 _ A32.out).mono ?_); rintro e w54 ⟨rfl, hb⟩; refine ⟨_, rfl, ?_⟩; replace BK582 := kN (g := gb582) (cs := #[.string t579, .int .i64 t580]) hb bk; replace BK585 := kN (g := gb585) (cs := #[.string t583, .int .i64 t584]) hb bk; replace BK589 := kN (g := gb589) (cs := #[.string t586, .int .i64 t587]) hb bk; replace HB := bN bz hb; (try clear hb); (try clear hb2); (try clear hk); (try clear hi)))
     go_ret
     exact ⟨ez, bz⟩
  ·rw [if_neg c23] at H
   obtain ⟨c23b0, c23b1⟩ := eF c23
   try first | rw [c23b0] | rw [c23b1]
   obtain rfl := Option.some.inj H
   go_wp2
   go_ret
   exact ⟨ez, bz⟩
 ·rw [if_neg c10] at H
  obtain ⟨c10b0, c10b1⟩ := eF c10
  try first | rw [c10b0] | rw [c10b1]
  obtain rfl := Option.some.inj H
  go_wp2
  go_ret
  exact ⟨ez, bz⟩
end Go.Proofs.YtmeapdchnnpceaaDoor.Fn
end
section
namespace Go.Proofs.YtmeapdchnnpceaaDoor.Pure
open Go.RowKit Go.Proofs.YtmeapdchnnpceaaDoorW.PrintWords Go.Proofs.YtmeapdchnnpceaaDoor.Fn
set_option linter.unusedVariables false
set_option linter.unusedSimpArgs false
theorem short_form (wide : Bool) {p : Nat} (hp : p < ii wide) : InForm (shortD wide p).1 (shortD wide p).2 := by
  obtain ⟨M, h1, h2, h3⟩ := short_spec wide p
  rcases best_some h2 with ⟨_, e⟩ | ⟨_, u, _, e, _⟩
  · rw [e]; exact (exV_val wide hp).form
  · rw [e]; exact inForm_decOf _ _
theorem short_pos (wide : Bool) {p : Nat} (hp : p < ii wide) (h0 : p ≠ 0) : 1 ≤ (shortD wide p).1.length := by
  refine Nat.succ_le_of_lt (List.length_pos_iff.2 fun h => ?_)
  have hf := (short_form wide hp).2.2.2 h
  obtain ⟨M, h1, h2, h3⟩ := short_spec wide p
  have hr := best_read hp h2
  rw [h, hf] at hr
  have := (read_zero wide).symm.trans hr
  simp at this
  omega
def closeD (wide : Bool) (p : Nat) : List UInt8 × Int := roundN (exV wide p).1 (exV wide p).2 ((shortD wide p).1.length : Int)
theorem close_core (wide : Bool) {p : Nat} (hp : p < ii wide) (h0 : p ≠ 0) : closeD wide p = shortD wide p ∨ ∃ r : Nat, rdS wide (S (closeD wide p).1) (closeD wide p).2 = ((r : Int), 0) ∧ r ≠ p := by
  have hv := exV_val wide hp
  have hk := short_pos wide hp h0
  obtain ⟨M, h1, h2, h3⟩ := short_spec wide p
  have hM := best_len hv h1 h2
  unfold closeD
  generalize hK : (shortD wide p).1.length = k at *
  by_cases c : (exV wide p).1.length ≤ k
  · have e : roundN (exV wide p).1 (exV wide p).2 (k : Int) = exV wide p := by
      unfold roundN
      rw [if_neg (by omega), if_pos (by omega)]
    rw [e]
    refine .inl ?_
    have hb := best_all wide p (exV wide p) c
    by_cases c2 : k = M
    · rw [c2, h2] at hb
      exact (Option.some.inj hb).symm
    · rw [h3 k hk (by omega)] at hb
      cases hb
  · have hn : k < (exV wide p).1.length := by omega
    rw [round_v hv k hn]
    by_cases c3 : isP wide p (nearU (exV wide p) k) (cE (exV wide p) k)
    · by_cases c2 : k = M
      · refine .inl ?_
        have hb := h2
        rw [← c2] at hb
        unfold bestD at hb
        rw [if_neg c, if_pos c3] at hb
        exact Option.some.inj hb
      · exact absurd c3 (best_none (h3 k hk (by omega))).2.1
    · exact .inr ⟨_, rd_cand hp hn (nearU_two _ _), c3⟩
theorem close_zero (wide : Bool) : exV wide 0 = ([], 0) := by
  unfold exV exD
  rw [show fM (ff wide) 0 = 0 by cases wide <;> rfl, Nat.zero_mul]
  rfl
theorem round_ex (wide : Bool) {p : Nat} (hp : p < ii wide) (n : Nat) : Ev (fun k => bigdec_Round.f k (S (exV wide p).1) (exV wide p).2 (n : Int)) (S (roundN (exV wide p).1 (exV wide p).2 (n : Int)).1, (roundN (exV wide p).1 (exV wide p).2 (n : Int)).2, 0) := by
  have h := roundS_eq (S (exV wide p).1) (exV wide p).2 (n : Int)
  have hv := exV_val wide hp
  have h5 := hv.five
  unfold roundS at h
  rw [normS_ok hv.form h5.1 h5.2, if_pos rfl] at h
  simp only [L_S] at h
  exact h
theorem ShortClosest : ∀ (a0 : Int) (a1 : Bool), (Lit.int .u64 a0).wf = true → ∃ k, platenlaw05_ShortClosest.f k a0 a1 = some true := by
  intro a0 wide h0
  obtain ⟨a, rfl, ha⟩ := wf_u64 h0
  refine Ev.rounds (g := fun k => platenlaw05_ShortClosest.f k (a : Int) wide) ?_
  unfold platenlaw05_ShortClosest.f
  obtain ⟨p, hp, hpi⟩ := finite_eq wide a ha
  rw [sized_law]
  simp only [Option.bind_some]
  rw [hp]
  simp only [Option.bind_some]
  refine Ev.bind (shortest_eq wide p (Nat.lt_trans hpi (ii_two wide))) ?_
  refine Ev.congr (fun k => if_pos (short_err wide hpi)) ?_
  refine Ev.bind (exactLaw_ev wide hpi) ?_
  refine Ev.bind (round_ex wide hpi _) ?_
  refine Ev.congr (fun k => if_pos rfl) ?_
  rw [shortS_fin wide hpi]
  by_cases c : p = 0
  · rw [if_pos c, c, close_zero]
    have e : roundN ([] : List UInt8) 0 (((⟨#[]⟩ : ByteArray).size : Nat) : Int) = ([], 0) := by
      unfold roundN
      rw [if_neg (by decide), if_pos (by decide)]
    dsimp only
    rw [e]
    exact Ev.congr (fun k => if_pos (by show ((⟨#[]⟩ : ByteArray).toList == (⟨#[]⟩ : ByteArray).toList && ((0 : Int) == 0)) = true; rw [beq_self_eq_true]; rfl)) livesEnd
  · rw [if_neg c]
    dsimp only
    rw [size_S]
    rcases close_core wide hpi c with h | ⟨r, h1, h2⟩
    · unfold closeD at h
      rw [h]
      exact Ev.congr (fun k => if_pos (by simp)) livesEnd
    · unfold closeD at h1
      generalize roundN (exV wide p).1 (exV wide p).2 ((shortD wide p).1.length : Int) = q at *
      by_cases c2 : ((S q.1).toList == (S (shortD wide p).1).toList && (q.2 == (shortD wide p).2)) = true
      · exact Ev.congr (fun k => if_pos c2) livesEnd
      · refine Ev.congr (fun k => if_neg c2) ?_
        refine Ev.bind (read_eq wide _ _) ?_
        rw [h1]
        refine Ev.congr (fun k => if_pos rfl) ?_
        exact Ev.congr (fun k => if_neg (fun e => h2 (Int.ofNat.inj e))) livesEnd
end Go.Proofs.YtmeapdchnnpceaaDoor.Pure
end
