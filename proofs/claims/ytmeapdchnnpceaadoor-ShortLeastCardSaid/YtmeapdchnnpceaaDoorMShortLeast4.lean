/- The law ShortLeast: the walks through its functions and its plain law (part 4). Own texts and the kit's printed words for this seat, without what the law does not use: put together by merge.py (of this work). -/
import Derived.Test.YtmeapdchnnpceaaDoorMShortLeast3
import Derived.Handy
section
namespace Go.Proofs.YtmeapdchnnpceaaDoor.Pure
open Go.RowKit Go.Proofs.YtmeapdchnnpceaaDoorW.PrintWords Go.Proofs.YtmeapdchnnpceaaDoor.Fn
set_option linter.unusedVariables false
set_option linter.unusedSimpArgs false
theorem one_decOf (u : Int) : (S ([49] : List UInt8), u + 1) = (S (decOf 1 u).1, (decOf 1 u).2) := by
  unfold decOf
  rw [if_neg (by omega)]
  have h1 : digs 1 = [49] := rfl
  rw [h1]
  have h2 : rz [49] = [49] := rfl
  rw [h2]
  simp
  omega
theorem normS_all {l : List UInt8} (h : AllD l) {p : Int} (hl : l.length ≤ 2000) (hp : -5000 ≤ p ∧ p ≤ 5000) : normS (S l) p = (S (decOf (val l) (p - l.length)).1, (decOf (val l) (p - l.length)).2, 0) := by
  unfold normS normTail
  rw [if_neg (by rw [size_S]; omega), L_S, if_pos (all_isD h), if_neg (by omega), if_neg (by omega), formL_eq h]
  rfl
theorem dec_bound {n k : Nat} {e : Int} (h : n < 10 ^ k) (hk : k ≤ 1400) (he : -3000 ≤ e) (h2 : e + k ≤ 3000) : (decOf n e).1.length ≤ 2000 ∧ -5000 ≤ (decOf n e).2 ∧ (decOf n e).2 ≤ 5000 := by
  have := decOf_bound h e
  omega
structure Val (wide : Bool) (p : Nat) (v : List UInt8 × Int) : Prop where
  form : InForm v.1 v.2
  len : v.1.length ≤ 1300
  lo : -1200 ≤ v.2
  hi : v.2 ≤ 1300
def cU (v : List UInt8 × Int) (n : Nat) : Nat := val (v.1.take n)
def cE (v : List UInt8 × Int) (n : Nat) : Int := v.2 - n
def isP (wide : Bool) (p : Nat) (n : Nat) (x : Int) : Prop := rdX wide (dX wide n x) = p
instance (wide : Bool) (p n : Nat) (x : Int) : Decidable (isP wide p n x) := by unfold isP; infer_instance
def nearU (v : List UInt8 × Int) (n : Nat) : Nat := if downP v.1 n then cU v n else cU v n + 1
def bestD (wide : Bool) (p : Nat) (v : List UInt8 × Int) (n : Nat) : Option (List UInt8 × Int) :=
  if v.1.length ≤ n then some v
  else if isP wide p (nearU v n) (cE v n) then some (decOf (nearU v n) (cE v n))
  else if isP wide p (cU v n) (cE v n) then some (decOf (cU v n) (cE v n))
  else if isP wide p (cU v n + 1) (cE v n) then some (decOf (cU v n + 1) (cE v n)) else none
def optD (o : Option (List UInt8 × Int)) : ByteArray × Int × Bool := match o with
  | some d => (S d.1, d.2, true)
  | none => (⟨#[]⟩, 0, false)
structure Span (wide : Bool) (p : Nat) (lo hi : List UInt8 × Int) : Prop where
  f1 : InForm lo.1 lo.2
  f2 : InForm hi.1 hi.2
  b1 : lo.1.length ≤ 2000 ∧ -5000 ≤ lo.2 ∧ lo.2 ≤ 5000
  b2 : hi.1.length ≤ 2000 ∧ -5000 ≤ hi.2 ∧ hi.2 ≤ 5000
  c1 : ∀ (n : Nat) (x : Int), -(vv : Int) ≤ x → cmpD lo.1 lo.2 (decOf n x).1 (decOf n x).2 = cmpN (loX wide p) (dX wide n x)
  c2 : ∀ (n : Nat) (x : Int), -(vv : Int) ≤ x → cmpD hi.1 hi.2 (decOf n x).1 (decOf n x).2 = cmpN (hiX wide p) (dX wide n x)
theorem in_ev {wide : Bool} {p : Nat} {lo hi : List UInt8 × Int} (hs : Span wide p lo hi) (hp : 0 < p) (hi2 : p < ii wide) {n k : Nat} {e : Int} (h : n < 10 ^ k) (hk : k ≤ 1400) (he : -3000 ≤ e) (h2 : e + k ≤ 3000) :
    Ev (fun r => short_span_in.f r (S lo.1) lo.2 (S hi.1) hi.2 (decide (p % 2 = 0)) (S (decOf n e).1) (decOf n e).2) (decide (isP wide p n e)) := by
  have hv := vv_eq
  exact span_ev wide p _ rfl rfl rfl hs.f1 hs.f2 (inForm_decOf n e) hs.b1 hs.b2 (dec_bound h hk he h2) (hs.c1 n e (by omega)) (hs.c2 n e (by omega)) _ (by rw [decide_eq_true_iff]; exact (inX_iff wide hp hi2 _).symm)
theorem cU_lt {wide : Bool} {p : Nat} {v : List UInt8 × Int} (hv : Val wide p v) (n : Nat) (hn : n < v.1.length) : cU v n < 10 ^ n := by
  have := val_lt (hv.form.1.take n)
  rw [List.length_take, Nat.min_eq_left (by omega)] at this
  exact this
theorem nearU_two (v : List UInt8 × Int) (n : Nat) : nearU v n = cU v n ∨ nearU v n = cU v n + 1 := by
  unfold nearU
  split
  · exact .inl rfl
  · exact .inr rfl
theorem round_v {wide : Bool} {p : Nat} {v : List UInt8 × Int} (hv : Val wide p v) (n : Nat) (hn : n < v.1.length) : roundN v.1 v.2 (n : Int) = decOf (nearU v n) (cE v n) := by
  unfold roundN nearU cU cE
  rw [if_neg (by omega), if_neg (by omega), Int.toNat_natCast]
  by_cases c : downP v.1 n
  · rw [if_pos c, if_pos c]
  · rw [if_neg c, if_neg c]
theorem Val.five {wide : Bool} {p : Nat} {v : List UInt8 × Int} (hv : Val wide p v) : v.1.length ≤ 2000 ∧ -5000 ≤ v.2 ∧ v.2 ≤ 5000 := by
  have := hv.len
  have := hv.lo
  have := hv.hi
  omega
theorem best_ev {wide : Bool} {p : Nat} {lo hi v : List UInt8 × Int} (hs : Span wide p lo hi) (hv : Val wide p v) (hp : 0 < p) (hi2 : p < ii wide) (n : Nat) :
    Ev (fun k => short_best.f k (S v.1) v.2 (n : Int) (S lo.1) lo.2 (S hi.1) hi.2 (decide (p % 2 = 0))) (optD (bestD wide p v n)) := by
  have hl := hv.len
  have hlo := hv.lo
  have hhi := hv.hi
  have h5 := hv.five
  unfold short_best.f bestD
  rw [size_S]
  by_cases c1 : v.1.length ≤ n
  · rw [if_pos c1]
    exact Ev.congr (fun k => if_pos (by omega)) (Ev.now _)
  · rw [if_neg c1]
    refine Ev.congr (fun k => if_neg (by omega)) ?_
    have hn : n < v.1.length := by omega
    have hu := cU_lt hv n hn
    have hu1 : cU v n + 1 < 10 ^ (n + 1) := by
      rw [Nat.pow_succ]
      have : 1 ≤ 10 ^ n := Nat.pow_pos (by omega)
      omega
    have hE : -3000 ≤ cE v n ∧ cE v n + ((n + 1 : Nat) : Int) ≤ 3000 := by unfold cE; omega
    have hnr : nearU v n < 10 ^ (n + 1) := by rcases nearU_two v n with h | h <;> rw [h] <;> omega
    have hr := roundS_eq (S v.1) v.2 (n : Int)
    have e1 : roundS (S v.1) v.2 (fun _ => (n : Int)) = (S (decOf (nearU v n) (cE v n)).1, (decOf (nearU v n) (cE v n)).2, 0) := by
      unfold roundS
      rw [normS_ok hv.form h5.1 h5.2, if_pos rfl]
      simp only [L_S]
      rw [round_v hv n hn]
      rfl
    rw [e1] at hr
    refine Ev.bind hr ?_
    refine Ev.bind (in_ev hs hp hi2 hnr (by omega) hE.1 hE.2) ?_
    by_cases c2 : isP wide p (nearU v n) (cE v n)
    · rw [if_pos c2]
      refine Ev.congr (fun k => if_pos (decide_eq_true c2)) (Ev.now _)
    · rw [if_neg c2]
      refine Ev.congr (fun k => if_neg (fun h => c2 (of_decide_eq_true h))) ?_
      refine Ev.congr (fun k => if_pos (by omega)) ?_
      refine Ev.congr (fun k => if_pos (by omega)) ?_
      rw [Int.toNat_natCast, S_take]
      have hnm := norm_eq (S (v.1.take n)) v.2
      have htl : (v.1.take n).length = n := by rw [List.length_take, Nat.min_eq_left (by omega)]
      rw [normS_all (hv.form.1.take n) (by omega) h5.2, htl] at hnm
      rw [show val (v.1.take n) = cU v n from rfl, show v.2 - (n : Int) = cE v n from rfl] at hnm
      refine Ev.bind hnm ?_
      have hw : wrap64 (wrap64 (v.2 - (n : Int)) + 1) = cE v n + 1 := by
        unfold cE
        rw [wrap_id (x := v.2 - (n : Int)) (by omega) (by omega), wrap_id (by omega) (by omega)]
      rw [hw]
      have hone := one_decOf (cE v n)
      have ho1 : (S ([49] : List UInt8)) = S (decOf 1 (cE v n)).1 := congrArg Prod.fst hone
      have ho2 : cE v n + 1 = (decOf 1 (cE v n)).2 := congrArg Prod.snd hone
      have hadd := addS_eq (S (decOf (cU v n) (cE v n)).1) (decOf (cU v n) (cE v n)).2 (S (decOf 1 (cE v n)).1) (decOf 1 (cE v n)).2
      have hE' : cE v n + (n : Int) ≤ 3000 := by omega
      have hE1 : cE v n + ((1 : Nat) : Int) ≤ 3000 := by omega
      rw [addS_ok (inForm_decOf _ _) (inForm_decOf _ _) (dec_bound hu (by omega) hE.1 hE') (dec_bound (n := 1) (k := 1) (by decide) (by decide) hE.1 hE1)] at hadd
      have e2 : addD (decOf (cU v n) (cE v n)).1 (decOf (cU v n) (cE v n)).2 (decOf 1 (cE v n)).1 (decOf 1 (cE v n)).2 = (S (decOf (cU v n + 1) (cE v n)).1, (decOf (cU v n + 1) (cE v n)).2, 0) := by
        unfold addD
        rw [sum_decOf, if_neg (by have := (dec_bound hu1 (by omega) hE.1 hE.2).1; omega)]
        rfl
      rw [e2, ← ho1, ← ho2] at hadd
      refine Ev.bind (g := fun k => bigdec_Add.f k (S (decOf (cU v n) (cE v n)).1) (decOf (cU v n) (cE v n)).2 (⟨#[49]⟩ : ByteArray) (cE v n + 1)) hadd ?_
      refine Ev.step (fun k => by simp only [short_best.l0]; rfl) ?_
      refine Ev.congr (fun k => if_pos (by simp)) ?_
      refine Ev.congr (fun k => if_pos (by simp)) ?_
      refine Ev.bind (in_ev hs hp hi2 hu (by omega) hE.1 hE') ?_
      by_cases c3 : isP wide p (cU v n) (cE v n)
      · rw [if_pos c3]
        exact Ev.congr (fun k => if_pos (decide_eq_true c3)) (Ev.now _)
      · rw [if_neg c3]
        refine Ev.congr (fun k => if_neg (fun h => c3 (of_decide_eq_true h))) ?_
        rw [show wrap64 ((0 : Int) + 1) = 1 by simp [wrap64]]
        refine Ev.step (fun k => by simp only [short_best.l0]; rfl) ?_
        refine Ev.congr (fun k => if_pos (by simp)) ?_
        refine Ev.congr (fun k => if_neg (by simp)) ?_
        refine Ev.congr (fun k => if_pos (by simp)) ?_
        refine Ev.bind (in_ev hs hp hi2 hu1 (by omega) hE.1 hE.2) ?_
        by_cases c4 : isP wide p (cU v n + 1) (cE v n)
        · rw [if_pos c4]
          exact Ev.congr (fun k => if_pos (decide_eq_true c4)) (Ev.now _)
        · rw [if_neg c4]
          refine Ev.congr (fun k => if_neg (fun h => c4 (of_decide_eq_true h))) ?_
          rw [show wrap64 ((1 : Int) + 1) = 2 by simp [wrap64]]
          refine Ev.step (fun k => by simp only [short_best.l0]; rfl) ?_
          exact Ev.congr (fun k => if_neg (by simp)) (Ev.now _)
def shortGo (wide : Bool) (p : Nat) (v : List UInt8 × Int) : Nat → Nat → List UInt8 × Int
  | 0, _ => v
  | d + 1, n => match bestD wide p v n with
    | some r => r
    | none => shortGo wide p v d (n + 1)
theorem best_all (wide : Bool) (p : Nat) (v : List UInt8 × Int) {n : Nat} (h : v.1.length ≤ n) : bestD wide p v n = some v := by
  unfold bestD
  rw [if_pos h]
theorem loop_ev {wide : Bool} {p : Nat} {lo hi v : List UInt8 × Int} (hs : Span wide p lo hi) (hv : Val wide p v) (hp : 0 < p) (hi2 : p < ii wide) : ∀ (d n : Nat), v.1.length ≤ n + d → n ≤ 2000 →
    Ev (fun k => short_Shortest.l0 k (n : Int) (S v.1) v.2 (S lo.1) lo.2 (S hi.1) hi.2 (decide (p % 2 = 0))) (S (shortGo wide p v d n).1, (shortGo wide p v d n).2, 0) := by
  intro d
  induction d with
  | zero =>
    intro n h hn
    have hb := best_ev hs hv hp hi2 n
    rw [best_all wide p v (n := n) h] at hb
    refine Ev.step (fun k => by simp only [short_Shortest.l0]; rfl) ?_
    refine Ev.bind hb ?_
    exact Ev.congr (fun k => if_pos rfl) (Ev.now _)
  | succ d ih =>
    intro n h hn
    have hb := best_ev hs hv hp hi2 n
    refine Ev.step (fun k => by simp only [short_Shortest.l0]; rfl) ?_
    refine Ev.bind hb ?_
    unfold shortGo
    cases hbd : bestD wide p v n with
    | some r => exact Ev.congr (fun k => if_pos rfl) (Ev.now _)
    | none =>
      refine Ev.congr (fun k => if_neg (by decide)) ?_
      have hlen := hv.len
      have hn2 : n < v.1.length := by
        refine Nat.lt_of_not_le fun c => ?_
        rw [best_all wide p v c] at hbd
        cases hbd
      rw [wrap_id (by omega) (by omega), show ((n : Int) + 1) = ((n + 1 : Nat) : Int) by omega]
      exact ih (n + 1) (by omega) (by omega)
def exV (wide : Bool) (p : Nat) : List UInt8 × Int := exD (fM (ff wide) p) ((fE (ff wide) p : Int) - (ll wide : Int))
theorem exV_val (wide : Bool) {p : Nat} (hp : p < ii wide) : Val wide p (exV wide p) := by
  have h1 := fEl wide (Nat.le_of_lt hp)
  have h2 := fE_le wide (Nat.le_of_lt hp)
  have h := exD_small (m := fM (ff wide) p) (by omega) (e := (fE (ff wide) p : Int) - (ll wide : Int)) (by omega)
  exact ⟨exD_form _ _, h.1, h.2.1, h.2.2⟩
def shortD (wide : Bool) (p : Nat) : List UInt8 × Int := shortGo wide p (exV wide p) (exV wide p).1.length 1
def shortS (wide : Bool) (a : Nat) : ByteArray × Int × Int :=
  if ii wide ≤ bareN wide a then (⟨#[]⟩, 0, 1) else if bareN wide a = 0 then (⟨#[]⟩, 0, 0) else (S (shortD wide (bareN wide a)).1, (shortD wide (bareN wide a)).2, 0)
theorem hi_span (wide : Bool) {p : Nat} (hp : 0 < p) (hi : p < ii wide) {lo : List UInt8 × Int} (f1 : InForm lo.1 lo.2) (b1 : lo.1.length ≤ 2000 ∧ -5000 ≤ lo.2 ∧ lo.2 ≤ 5000)
    (c1 : ∀ (n : Nat) (x : Int), -(vv : Int) ≤ x → cmpD lo.1 lo.2 (decOf n x).1 (decOf n x).2 = cmpN (loX wide p) (dX wide n x)) :
    Span wide p lo (exD (2 * fM (ff wide) p + 1) ((fE (ff wide) p : Int) - (ll wide : Int) - 1)) := by
  have h1 := fEl wide (Nat.le_of_lt hi)
  have h2 := fE_le wide (Nat.le_of_lt hi)
  have h := exD_small (m := 2 * fM (ff wide) p + 1) (by omega) (e := (fE (ff wide) p : Int) - (ll wide : Int) - 1) (by omega)
  exact ⟨f1, exD_form _ _, b1, by omega, c1, fun n x hx => cmp_hi wide p n x hx⟩
theorem j1_ev {wide : Bool} {p : Nat} {lo hi : List UInt8 × Int} (hs : Span wide p lo hi) (hp : 0 < p) (hi2 : p < ii wide) :
    Ev (fun k => short_Shortest.j1 k (p : Int) (ff wide : Int) (-(ll wide : Int)) (ii wide : Int) (S lo.1) lo.2 (S hi.1) hi.2 (decide (p % 2 = 0))) (S (shortD wide p).1, (shortD wide p).2, 0) := by
  refine Ev.step (fun k => by simp only [short_Shortest.j1]; rfl) ?_
  have hsh := shapeExact_ev wide (Nat.le_of_lt hi2)
  refine Ev.bind hsh ?_
  exact loop_ev hs (exV_val wide hi2) hp hi2 (exV wide p).1.length 1 (by omega) (by omega)
theorem shortest_eq (wide : Bool) (a : Nat) (ha : a < 18446744073709551616) : Ev (fun k => short_Shortest.f k (a : Int) (szB wide)) (shortS wide a) := by
  obtain ⟨j, hj, ht, hw⟩ := tt_pow wide
  have hi := ii_lt wide
  have hmt := Nat.mod_lt a (tt_le wide).1
  have htt := (tt_le wide).2
  unfold short_Shortest.f
  rw [of_eq']
  simp only [Option.bind_some, if_true]
  rw [hw]
  refine Ev.congr (fun k => if_pos (by omega)) ?_
  rw [mask_one _ hj, and_mask _ _ (by omega) ha, ← ht]
  unfold shortS bareN
  obtain ⟨p, hp⟩ : ∃ p, a % tt wide = p := ⟨_, rfl⟩
  rw [hp] at hmt ⊢
  by_cases c1 : ii wide ≤ p
  · rw [if_pos c1]
    exact Ev.congr (fun k => if_pos (by omega)) (Ev.now _)
  · rw [if_neg c1]
    refine Ev.congr (fun k => if_neg (by omega)) ?_
    rw [value_eq wide p (by omega)]
    simp only [Option.bind_some]
    by_cases c2 : p = 0
    · rw [if_pos c2]
      have h0 : fM (ff wide) p = 0 := by rw [c2]; cases wide <;> decide
      exact Ev.congr (fun k => if_pos (by omega)) (Ev.now _)
    · rw [if_neg c2]
      have hp0 : 0 < p := by omega
      have hlt : p < ii wide := by omega
      have hm := fM_pos (f := ff wide) hp0
      refine Ev.congr (fun k => if_neg (by omega)) ?_
      have h1 := fEl wide (Nat.le_of_lt hlt)
      have h2 := fE_le wide (Nat.le_of_lt hlt)
      obtain ⟨e, he⟩ : ∃ e : Int, (fE (ff wide) p : Int) - (ll wide : Int) = e := ⟨_, rfl⟩
      have hlo2 := cmp_lo2 wide hp0
      have hlo1 := cmp_lo1 wide hp0
      have hsp := fun lo => @hi_span wide p hp0 hlt lo
      have hll := ll_two wide
      rw [he] at h1 hlo1 hlo2 hsp ⊢
      obtain ⟨m, hmm⟩ : ∃ m, fM (ff wide) p = m := ⟨_, rfl⟩
      rw [hmm] at hm h2 hlo1 hlo2 hsp ⊢
      have e1 : IntKind.u64.wrap (IntKind.u64.wrap (2 * (m : Int)) + 1) = ((2 * m + 1 : Nat) : Int) := by
        rw [show (2 : Int) * (m : Int) = ((2 * m : Nat) : Int) by omega, u64N _ (by omega), show (((2 * m : Nat) : Int) + 1) = ((2 * m + 1 : Nat) : Int) by omega, u64N _ (by omega)]
      have e2 : IntKind.u64.wrap (IntKind.u64.wrap (2 * (m : Int)) - 1) = ((2 * m - 1 : Nat) : Int) := by
        rw [show (2 : Int) * (m : Int) = ((2 * m : Nat) : Int) by omega, u64N _ (by omega), show (((2 * m : Nat) : Int) - 1) = ((2 * m - 1 : Nat) : Int) by omega, u64N _ (by omega)]
      have e4 : IntKind.u64.wrap (IntKind.u64.wrap (4 * (m : Int)) - 1) = ((4 * m - 1 : Nat) : Int) := by
        rw [show (4 : Int) * (m : Int) = ((4 * m : Nat) : Int) by omega, u64N _ (by omega), show (((4 * m : Nat) : Int) - 1) = ((4 * m - 1 : Nat) : Int) by omega, u64N _ (by omega)]
      have w1 : wrap64 (e - 1) = e - 1 := wrap_id (by omega) (by omega)
      have w2 : wrap64 (e - 2) = e - 2 := wrap_id (by omega) (by omega)
      have x1 := exact_eq (2 * m + 1) (e - 1) (by omega)
      rw [exactS_exD _ (by omega)] at x1
      have x2 := exact_eq (2 * m - 1) (e - 1) (by omega)
      rw [exactS_exD _ (by omega)] at x2
      have x4 := exact_eq (4 * m - 1) (e - 2) (by omega)
      rw [exactS_exD _ (by omega)] at x4
      have s2 := exD_small (m := 2 * m - 1) (by omega) (e := e - 1) (by omega)
      have s4 := exD_small (m := 4 * m - 1) (by omega) (e := e - 2) (by omega)
      rw [e1, w1, e2]
      refine Ev.bind x1 ?_
      refine Ev.bind x2 ?_
      refine Ev.congr (fun k => if_pos (by omega)) ?_
      have hpar : (Int.tmod (m : Int) 2 == 0) = decide (p % 2 = 0) := by
        rw [show (2 : Int) = ((2 : Nat) : Int) from rfl, tmodN]
        have hq : p % 2 = m % 2 := by
          obtain ⟨g1, _⟩ := fOf (ff wide) p
          rw [hmm] at g1
          obtain ⟨u, hu⟩ : ∃ u, ff wide = u + 1 := ⟨ff wide - 1, (Nat.sub_add_cancel (Nat.le_trans (by decide) (ff_two wide).1)).symm⟩
          rw [hu, Nat.pow_succ, ← Nat.mul_assoc] at g1
          generalize fE (u + 1) p * 2 ^ u = G at g1
          rw [g1]
          omega
        rw [hq, Bool.eq_iff_iff]
        simp
        omega
      rw [hpar, shl_one _ (Nat.le_trans (ff_lt wide) (by decide))]
      -- the two ways behind
      have way1 : m ≠ 2 ^ ff wide ∨ fE (ff wide) p = 0 → Ev (fun k => short_Shortest.j1 k (p : Int) (ff wide : Int) (-(ll wide : Int)) (ii wide : Int) (S (exD (2 * m - 1) (e - 1)).1) (exD (2 * m - 1) (e - 1)).2 (S (exD (2 * m + 1) (e - 1)).1) (exD (2 * m + 1) (e - 1)).2 (decide (p % 2 = 0))) (S (shortD wide p).1, (shortD wide p).2, 0) := fun h =>
        j1_ev (hsp _ (exD_form _ _) (by omega) (fun n x hx => hlo1 h n x hx)) hp0 hlt
      by_cases c3 : m = 2 ^ ff wide
      · refine Ev.congr (fun k => if_pos (by rw [c3])) ?_
        by_cases c4 : fE (ff wide) p = 0
        · rw [show decide (e > -(ll wide : Int)) = false from decide_eq_false (by omega)]
          refine Ev.step (fun k => by simp only [short_Shortest.j0]; rfl) ?_
          exact Ev.congr (fun k => if_neg (by decide)) (way1 (.inr c4))
        · rw [show decide (e > -(ll wide : Int)) = true from decide_eq_true (by omega)]
          refine Ev.step (fun k => by simp only [short_Shortest.j0]; rfl) ?_
          refine Ev.congr (fun k => if_pos (by simp)) ?_
          rw [e4, w2]
          refine Ev.bind x4 ?_
          exact j1_ev (hsp _ (exD_form _ _) (by omega) (fun n x hx => hlo2 c3 c4 n x hx)) hp0 hlt
      · refine Ev.congr (fun k => if_neg (fun h => c3 (Int.ofNat.inj h))) ?_
        refine Ev.step (fun k => by simp only [short_Shortest.j0]; rfl) ?_
        exact Ev.congr (fun k => if_neg (by decide)) (way1 (.inl c3))
end Go.Proofs.YtmeapdchnnpceaaDoor.Pure
end
section
namespace Go.Proofs.YtmeapdchnnpceaaDoor.Pure
open Go.RowKit Go.Proofs.YtmeapdchnnpceaaDoorW.PrintWords Go.Proofs.YtmeapdchnnpceaaDoor.Fn
set_option linter.unusedVariables false
set_option linter.unusedSimpArgs false
theorem dX_decOf (wide : Bool) (n : Nat) {e : Int} (he : -(vv : Int) ≤ e) : dX wide (val (decOf n e).1) ((decOf n e).2 - (decOf n e).1.length) = dX wide n e := by
  by_cases h : n = 0
  · subst h
    rw [decOf_zero]
    unfold dX
    rw [val_nil, Nat.zero_mul, Nat.zero_mul, Nat.zero_mul, Nat.zero_mul]
  · have h1 := sv_decOf n e
    have h2 := low_decOf h e
    unfold sv at h1
    generalize (decOf n e).2 - ((decOf n e).1.length : Int) = x at *
    obtain ⟨j, rfl⟩ : ∃ j : Nat, x = e + j := ⟨(x - e).toNat, by omega⟩
    have e1 : (e + (j : Int) - e).toNat = j := by omega
    have e2 : (e + (j : Int) + (vv : Int)).toNat = j + (e + (vv : Int)).toNat := by omega
    rw [e1] at h1
    unfold dX
    rw [e2, Nat.pow_add, ← Nat.mul_assoc, h1]
theorem rdS_dec (wide : Bool) {n k : Nat} {e : Int} (h : n < 10 ^ k) (hk : k ≤ 1400) (he : -3000 ≤ e) (h2 : e + k ≤ 3000) : rdS wide (S (decOf n e).1) (decOf n e).2 = ((rdX wide (dX wide n e) : Int), 0) := by
  have hb := dec_bound h hk he h2
  have hv := vv_eq
  unfold rdS
  rw [normS_ok (inForm_decOf n e) hb.1 hb.2, if_pos rfl]
  simp only [L_S]
  rw [dX_decOf wide n (by omega)]
theorem rdS_five (wide : Bool) {l : List UInt8} {q : Int} (hf : InForm l q) (h5 : l.length ≤ 2000 ∧ -5000 ≤ q ∧ q ≤ 5000) : rdS wide (S l) q = ((rdX wide (dX wide (val l) (q - l.length)) : Int), 0) := by
  unfold rdS
  rw [normS_ok hf h5.1 h5.2, if_pos rfl]
  simp only [L_S]
theorem cand {wide : Bool} {p : Nat} {v : List UInt8 × Int} (hv : Val wide p v) {n : Nat} (hn : n < v.1.length) :
    cU v n < 10 ^ n ∧ cU v n + 1 < 10 ^ (n + 1) ∧ n ≤ 1400 ∧ n + 1 ≤ 1400 ∧ -3000 ≤ cE v n ∧ cE v n + (n : Int) ≤ 3000 ∧ cE v n + ((n + 1 : Nat) : Int) ≤ 3000 := by
  have hl := hv.len
  have hlo := hv.lo
  have hhi := hv.hi
  have hu := cU_lt hv n hn
  refine ⟨hu, ?_, by omega, by omega, by unfold cE; omega, by unfold cE; omega, by unfold cE; omega⟩
  rw [Nat.pow_succ]
  have : 1 ≤ 10 ^ n := Nat.pow_pos (by omega)
  omega
theorem shortGo_step (wide : Bool) (p : Nat) (v : List UInt8 × Int) (d n : Nat) : shortGo wide p v (d + 1) n = (bestD wide p v n).getD (shortGo wide p v d (n + 1)) := by
  conv => lhs; unfold shortGo
  cases bestD wide p v n <;> rfl
end Go.Proofs.YtmeapdchnnpceaaDoor.Pure
end
section
namespace Go.Proofs.YtmeapdchnnpceaaDoor.Fn
open Go.RowKit Go.Proofs.YtmeapdchnnpceaaDoorW.PrintWords Go.Proofs.YtmeapdchnnpceaaDoorW.PrintLast Go.Proofs.YtmeapdchnnpceaaDoorW.PrintMore
attribute [local go_sem] min2_int min_two
set_option linter.unusedVariables false
set_option linter.unusedSimpArgs false
attribute [local go_sem high] eqA28
def platenlaw05_lives.f (k : Nat)  : Option (Bool) := (short_Read.f k (⟨#[49]⟩ : ByteArray) 0 64).bind fun bt302 => ((short_Shortest.f k 4591870180066957722 64).bind fun bt304 => ((short_Parts.f 4609434218613702656 64).bind fun bt308 => (if bt302.2 = 0 then (if bt304.2.2 = 0 then (if bt302.1 = 4591870180066957722 then (if (bt304.1.toList == ([49] : List UInt8) && (bt304.2.1 == 0)) = true then (if bt308.2.1 = 6755399441055744 then (if bt308.2.2.1 = (-52) then (some (bt308.2.2.2 == 0)) else (some false)) else (some false)) else (some false)) else (some false)) else (some false)) else (some false))))
set_option maxHeartbeats 8000000 in
set_option maxRecDepth 100000 in
theorem platenlaw05_lives.calls (k : Nat)  (r : Bool) (w : World) (h : platenlaw05_lives.f k  = some r) :
  Calls Tryd.prog 15 #[] w fun e w' => e = .returned (.bool r) ∧ Below w.heap.size w w' := by
 have hu28 := Tryd.underlying28
 have HB := Aside0.mk (Below.refl w.heap.size w)
 have H : ((short_Read.f k (⟨#[49]⟩ : ByteArray) 0 64).bind fun bt302 => ((short_Shortest.f k 4591870180066957722 64).bind fun bt304 => ((short_Parts.f 4609434218613702656 64).bind fun bt308 => (if bt302.2 = 0 then (if bt304.2.2 = 0 then (if bt302.1 = 4591870180066957722 then (if (bt304.1.toList == ([49] : List UInt8) && (bt304.2.1 == 0)) = true then (if bt308.2.1 = 6755399441055744 then (if bt308.2.2.1 = (-52) then (some (bt308.2.2.2 == 0)) else (some false)) else (some false)) else (some false)) else (some false)) else (some false)) else (some false))))) = some r := h
 clear h
 replace H := bs H
 obtain ⟨⟨t302, t303⟩, A1, H⟩ := H
 dsimp only at H
 replace H := bs H
 obtain ⟨⟨t304, t305, t306⟩, A2, H⟩ := H
 dsimp only at H
 replace H := bs H
 obtain ⟨⟨t308, t309, t310, t311⟩, A3, H⟩ := H
 dsimp only at H
 by_cases c4 : t303 = 0
 ·rw [if_pos c4] at H
  obtain ⟨c4b0, c4b1⟩ := eT c4
  clear c4
  by_cases c5 : t306 = 0
  ·rw [if_pos c5] at H
   obtain ⟨c5b0, c5b1⟩ := eT c5
   clear c5
   by_cases c6 : t302 = 4591870180066957722
   ·rw [if_pos c6] at H
    obtain ⟨c6b0, c6b1⟩ := eT c6
    clear c6
    by_cases c7 : (t304.toList == ([49] : List UInt8) && (t305 == 0)) = true
    ·rw [if_pos c7] at H
     have c7b0 : (t304.toList == ([49] : List UInt8) && (t305 == 0)) = true := c7
     (try (have c7b1 : decide (t304.toList = ([49] : List UInt8) && (t305 == 0)) = true := by simpa using c7))
     (try (have c7b2 : (t304.toList == ([49] : List UInt8) && (t305 == 0)) = true := by simpa using c7))
     clear c7
     by_cases c8 : t309 = 6755399441055744
     ·rw [if_pos c8] at H
      obtain ⟨c8b0, c8b1⟩ := eT c8
      clear c8
      by_cases c9 : t310 = (-52)
      ·rw [if_pos c9] at H
       obtain ⟨c9b0, c9b1⟩ := eT c9
       clear c9
       obtain rfl := Option.some.inj H
       go_enter Tryd.func15, Tryd.ntmps15
       go_wp2_with (first | ((with_reducible refine gate_callee (f := 16) rfl ?_); refine goesL_ (some 11) rfl rfl Tryd.func16 (by kernel_rfl) rfl #[.agg #[.string (⟨#[49]⟩ : ByteArray), .int .i64 0], .int .i64 64] rfl lz ?_; (with_reducible refine (short_Read.calls k (⟨#[49]⟩ : ByteArray) 0 64 t302 t303 _ A1.out).mono ?_); rintro e w10 ⟨rfl, hb⟩; refine ⟨_, rfl, ?_⟩; replace HB := bN bz hb; (try clear hb); (try clear hb2); (try clear hk); (try clear hi)) | ((with_reducible refine gate_callee (f := 18) rfl ?_); refine goesL_ (some 15) rfl rfl Tryd.func18 (by kernel_rfl) rfl #[.int .u64 4591870180066957722, .int .i64 64] rfl lz ?_; (with_reducible refine (short_Shortest.calls k 4591870180066957722 64 t304 t305 t306 _ A2.out).mono ?_); rintro e w11 ⟨rfl, hb⟩; refine ⟨_, rfl, ?_⟩; replace HB := bN bz hb; (try clear hb); (try clear hb2); (try clear hk); (try clear hi)) | ((with_reducible refine gate_dst (N := 3) rfl ?_); refine box_event rfl (N := 3) rfl (cs := #[.string (⟨#[]⟩ : ByteArray), .int .i64 0]) (t := 28) gz ?_; intro gb307 hg w12 hbox hb; have GW307 := gN bz hg; have GE307 := gN bz hg; have BK307 := Aside0.mk hbox; replace HB := bN bz hb; clear hb hbox hg; obtain ⟨hcz13_0, hcz13_1, hfz13_0, hfz13_1⟩ := cz2 (W := w12) BK307) | ((with_reducible refine gate_callee (f := 13) rfl ?_); refine goesL_ (some 19) rfl rfl Tryd.func13 (by kernel_rfl) rfl #[.int .u64 4609434218613702656, .int .i64 64] rfl lz ?_; (with_reducible refine (short_Parts.calls 4609434218613702656 64 t308 t309 t310 t311 _ A3.out).mono ?_); rintro e w14 ⟨rfl, hb⟩; refine ⟨_, rfl, ?_⟩; replace BK307 := kN (g := gb307) (cs := #[.string t304, .int .i64 t305]) hb bk; replace HB := bN bz hb; (try clear hb); (try clear hb2); (try clear hk); (try clear hi); obtain ⟨hcz15_0, hcz15_1, hfz15_0, hfz15_1⟩ := cz2 (W := w14) BK307))
       go_ret
       exact ⟨ez, bz⟩
      ·rw [if_neg c9] at H
       obtain ⟨c9b0, c9b1⟩ := eF c9
       obtain rfl := Option.some.inj H
       go_enter Tryd.func15, Tryd.ntmps15
       go_wp2_with (first | ((with_reducible refine gate_callee (f := 16) rfl ?_); refine goesL_ (some 11) rfl rfl Tryd.func16 (by kernel_rfl) rfl #[.agg #[.string (⟨#[49]⟩ : ByteArray), .int .i64 0], .int .i64 64] rfl lz ?_; (with_reducible refine (short_Read.calls k (⟨#[49]⟩ : ByteArray) 0 64 t302 t303 _ A1.out).mono ?_); rintro e w16 ⟨rfl, hb⟩; refine ⟨_, rfl, ?_⟩; replace HB := bN bz hb; (try clear hb); (try clear hb2); (try clear hk); (try clear hi)) | ((with_reducible refine gate_callee (f := 18) rfl ?_); refine goesL_ (some 15) rfl rfl Tryd.func18 (by kernel_rfl) rfl #[.int .u64 4591870180066957722, .int .i64 64] rfl lz ?_; (with_reducible refine (short_Shortest.calls k 4591870180066957722 64 t304 t305 t306 _ A2.out).mono ?_); rintro e w17 ⟨rfl, hb⟩; refine ⟨_, rfl, ?_⟩; replace HB := bN bz hb; (try clear hb); (try clear hb2); (try clear hk); (try clear hi)) | ((with_reducible refine gate_dst (N := 3) rfl ?_); refine box_event rfl (N := 3) rfl (cs := #[.string (⟨#[]⟩ : ByteArray), .int .i64 0]) (t := 28) gz ?_; intro gb307 hg w18 hbox hb; have GW307 := gN bz hg; have GE307 := gN bz hg; have BK307 := Aside0.mk hbox; replace HB := bN bz hb; clear hb hbox hg; obtain ⟨hcz19_0, hcz19_1, hfz19_0, hfz19_1⟩ := cz2 (W := w18) BK307) | ((with_reducible refine gate_callee (f := 13) rfl ?_); refine goesL_ (some 19) rfl rfl Tryd.func13 (by kernel_rfl) rfl #[.int .u64 4609434218613702656, .int .i64 64] rfl lz ?_; (with_reducible refine (short_Parts.calls 4609434218613702656 64 t308 t309 t310 t311 _ A3.out).mono ?_); rintro e w20 ⟨rfl, hb⟩; refine ⟨_, rfl, ?_⟩; replace BK307 := kN (g := gb307) (cs := #[.string t304, .int .i64 t305]) hb bk; replace HB := bN bz hb; (try clear hb); (try clear hb2); (try clear hk); (try clear hi); obtain ⟨hcz21_0, hcz21_1, hfz21_0, hfz21_1⟩ := cz2 (W := w20) BK307))
       go_ret
       exact ⟨ez, bz⟩
     ·rw [if_neg c8] at H
      obtain ⟨c8b0, c8b1⟩ := eF c8
      obtain rfl := Option.some.inj H
      go_enter Tryd.func15, Tryd.ntmps15
      go_wp2_with (first | ((with_reducible refine gate_callee (f := 16) rfl ?_); refine goesL_ (some 11) rfl rfl Tryd.func16 (by kernel_rfl) rfl #[.agg #[.string (⟨#[49]⟩ : ByteArray), .int .i64 0], .int .i64 64] rfl lz ?_; (with_reducible refine (short_Read.calls k (⟨#[49]⟩ : ByteArray) 0 64 t302 t303 _ A1.out).mono ?_); rintro e w22 ⟨rfl, hb⟩; refine ⟨_, rfl, ?_⟩; replace HB := bN bz hb; (try clear hb); (try clear hb2); (try clear hk); (try clear hi)) | ((with_reducible refine gate_callee (f := 18) rfl ?_); refine goesL_ (some 15) rfl rfl Tryd.func18 (by kernel_rfl) rfl #[.int .u64 4591870180066957722, .int .i64 64] rfl lz ?_; (with_reducible refine (short_Shortest.calls k 4591870180066957722 64 t304 t305 t306 _ A2.out).mono ?_); rintro e w23 ⟨rfl, hb⟩; refine ⟨_, rfl, ?_⟩; replace HB := bN bz hb; (try clear hb); (try clear hb2); (try clear hk); (try clear hi)) | ((with_reducible refine gate_dst (N := 3) rfl ?_); refine box_event rfl (N := 3) rfl (cs := #[.string (⟨#[]⟩ : ByteArray), .int .i64 0]) (t := 28) gz ?_; intro gb307 hg w24 hbox hb; have GW307 := gN bz hg; have GE307 := gN bz hg; have BK307 := Aside0.mk hbox; replace HB := bN bz hb; clear hb hbox hg; obtain ⟨hcz25_0, hcz25_1, hfz25_0, hfz25_1⟩ := cz2 (W := w24) BK307) | ((with_reducible refine gate_callee (f := 13) rfl ?_); refine goesL_ (some 19) rfl rfl Tryd.func13 (by kernel_rfl) rfl #[.int .u64 4609434218613702656, .int .i64 64] rfl lz ?_; (with_reducible refine (short_Parts.calls 4609434218613702656 64 t308 t309 t310 t311 _ A3.out).mono ?_); rintro e w26 ⟨rfl, hb⟩; refine ⟨_, rfl, ?_⟩; replace BK307 := kN (g := gb307) (cs := #[.string t304, .int .i64 t305]) hb bk; replace HB := bN bz hb; (try clear hb); (try clear hb2); (try clear hk); (try clear hi); obtain ⟨hcz27_0, hcz27_1, hfz27_0, hfz27_1⟩ := cz2 (W := w26) BK307))
      go_ret
      exact ⟨ez, bz⟩
    ·rw [if_neg c7] at H
     have c7b0 : (t304.toList == ([49] : List UInt8) && (t305 == 0)) = false := by simpa using c7
     (try (have c7b1 : decide (t304.toList = ([49] : List UInt8) && (t305 == 0)) = false := by simpa using c7))
     (try (have c7b2 : (t304.toList == ([49] : List UInt8) && (t305 == 0)) = false := by simpa using c7))
     (try (have c7b3 : ¬ (t304.toList = ([49] : List UInt8) && (t305 == 0)) := by simpa using c7))
     clear c7
     obtain rfl := Option.some.inj H
     go_enter Tryd.func15, Tryd.ntmps15
     go_wp2_with (first | ((with_reducible refine gate_callee (f := 16) rfl ?_); refine goesL_ (some 11) rfl rfl Tryd.func16 (by kernel_rfl) rfl #[.agg #[.string (⟨#[49]⟩ : ByteArray), .int .i64 0], .int .i64 64] rfl lz ?_; (with_reducible refine (short_Read.calls k (⟨#[49]⟩ : ByteArray) 0 64 t302 t303 _ A1.out).mono ?_); rintro e w28 ⟨rfl, hb⟩; refine ⟨_, rfl, ?_⟩; replace HB := bN bz hb; (try clear hb); (try clear hb2); (try clear hk); (try clear hi)) | ((with_reducible refine gate_callee (f := 18) rfl ?_); refine goesL_ (some 15) rfl rfl Tryd.func18 (by kernel_rfl) rfl #[.int .u64 4591870180066957722, .int .i64 64] rfl lz ?_; (with_reducible refine (short_Shortest.calls k 4591870180066957722 64 t304 t305 t306 _ A2.out).mono ?_); rintro e w29 ⟨rfl, hb⟩; refine ⟨_, rfl, ?_⟩; replace HB := bN bz hb; (try clear hb); (try clear hb2); (try clear hk); (try clear hi)) | ((with_reducible refine gate_dst (N := 3) rfl ?_); refine box_event rfl (N := 3) rfl (cs := #[.string (⟨#[]⟩ : ByteArray), .int .i64 0]) (t := 28) gz ?_; intro gb307 hg w30 hbox hb; have GW307 := gN bz hg; have GE307 := gN bz hg; have BK307 := Aside0.mk hbox; replace HB := bN bz hb; clear hb hbox hg; obtain ⟨hcz31_0, hcz31_1, hfz31_0, hfz31_1⟩ := cz2 (W := w30) BK307) | ((with_reducible refine gate_callee (f := 13) rfl ?_); refine goesL_ (some 19) rfl rfl Tryd.func13 (by kernel_rfl) rfl #[.int .u64 4609434218613702656, .int .i64 64] rfl lz ?_; (with_reducible refine (short_Parts.calls 4609434218613702656 64 t308 t309 t310 t311 _ A3.out).mono ?_); rintro e w32 ⟨rfl, hb⟩; refine ⟨_, rfl, ?_⟩; replace BK307 := kN (g := gb307) (cs := #[.string t304, .int .i64 t305]) hb bk; replace HB := bN bz hb; (try clear hb); (try clear hb2); (try clear hk); (try clear hi); obtain ⟨hcz33_0, hcz33_1, hfz33_0, hfz33_1⟩ := cz2 (W := w32) BK307))
     go_ret
     exact ⟨ez, bz⟩
   ·rw [if_neg c6] at H
    obtain ⟨c6b0, c6b1⟩ := eF c6
    obtain rfl := Option.some.inj H
    go_enter Tryd.func15, Tryd.ntmps15
    go_wp2_with (first | ((with_reducible refine gate_callee (f := 16) rfl ?_); refine goesL_ (some 11) rfl rfl Tryd.func16 (by kernel_rfl) rfl #[.agg #[.string (⟨#[49]⟩ : ByteArray), .int .i64 0], .int .i64 64] rfl lz ?_; (with_reducible refine (short_Read.calls k (⟨#[49]⟩ : ByteArray) 0 64 t302 t303 _ A1.out).mono ?_); rintro e w34 ⟨rfl, hb⟩; refine ⟨_, rfl, ?_⟩; replace HB := bN bz hb; (try clear hb); (try clear hb2); (try clear hk); (try clear hi)) | ((with_reducible refine gate_callee (f := 18) rfl ?_); refine goesL_ (some 15) rfl rfl Tryd.func18 (by kernel_rfl) rfl #[.int .u64 4591870180066957722, .int .i64 64] rfl lz ?_; (with_reducible refine (short_Shortest.calls k 4591870180066957722 64 t304 t305 t306 _ A2.out).mono ?_); rintro e w35 ⟨rfl, hb⟩; refine ⟨_, rfl, ?_⟩; replace HB := bN bz hb; (try clear hb); (try clear hb2); (try clear hk); (try clear hi)) | ((with_reducible refine gate_dst (N := 3) rfl ?_); refine box_event rfl (N := 3) rfl (cs := #[.string (⟨#[]⟩ : ByteArray), .int .i64 0]) (t := 28) gz ?_; intro gb307 hg w36 hbox hb; have GW307 := gN bz hg; have GE307 := gN bz hg; have BK307 := Aside0.mk hbox; replace HB := bN bz hb; clear hb hbox hg; obtain ⟨hcz37_0, hcz37_1, hfz37_0, hfz37_1⟩ := cz2 (W := w36) BK307) | ((with_reducible refine gate_callee (f := 13) rfl ?_); refine goesL_ (some 19) rfl rfl Tryd.func13 (by kernel_rfl) rfl #[.int .u64 4609434218613702656, .int .i64 64] rfl lz ?_; (with_reducible refine (short_Parts.calls 4609434218613702656 64 t308 t309 t310 t311 _ A3.out).mono ?_); rintro e w38 ⟨rfl, hb⟩; refine ⟨_, rfl, ?_⟩; replace BK307 := kN (g := gb307) (cs := #[.string t304, .int .i64 t305]) hb bk; replace HB := bN bz hb; (try clear hb); (try clear hb2); (try clear hk); (try clear hi)))
    go_ret
    exact ⟨ez, bz⟩
  ·rw [if_neg c5] at H
   obtain ⟨c5b0, c5b1⟩ := eF c5
   obtain rfl := Option.some.inj H
   go_enter Tryd.func15, Tryd.ntmps15
   go_wp2_with (first | ((with_reducible refine gate_callee (f := 16) rfl ?_); refine goesL_ (some 11) rfl rfl Tryd.func16 (by kernel_rfl) rfl #[.agg #[.string (⟨#[49]⟩ : ByteArray), .int .i64 0], .int .i64 64] rfl lz ?_; (with_reducible refine (short_Read.calls k (⟨#[49]⟩ : ByteArray) 0 64 t302 t303 _ A1.out).mono ?_); rintro e w39 ⟨rfl, hb⟩; refine ⟨_, rfl, ?_⟩; replace HB := bN bz hb; (try clear hb); (try clear hb2); (try clear hk); (try clear hi)) | ((with_reducible refine gate_callee (f := 18) rfl ?_); refine goesL_ (some 15) rfl rfl Tryd.func18 (by kernel_rfl) rfl #[.int .u64 4591870180066957722, .int .i64 64] rfl lz ?_; (with_reducible refine (short_Shortest.calls k 4591870180066957722 64 t304 t305 t306 _ A2.out).mono ?_); rintro e w40 ⟨rfl, hb⟩; refine ⟨_, rfl, ?_⟩; replace HB := bN bz hb; (try clear hb); (try clear hb2); (try clear hk); (try clear hi)) | ((with_reducible refine gate_dst (N := 3) rfl ?_); refine box_event rfl (N := 3) rfl (cs := #[.string (⟨#[]⟩ : ByteArray), .int .i64 0]) (t := 28) gz ?_; intro gb307 hg w41 hbox hb; have GW307 := gN bz hg; have GE307 := gN bz hg; have BK307 := Aside0.mk hbox; replace HB := bN bz hb; clear hb hbox hg; obtain ⟨hcz42_0, hcz42_1, hfz42_0, hfz42_1⟩ := cz2 (W := w41) BK307) | ((with_reducible refine gate_callee (f := 13) rfl ?_); refine goesL_ (some 19) rfl rfl Tryd.func13 (by kernel_rfl) rfl #[.int .u64 4609434218613702656, .int .i64 64] rfl lz ?_; (with_reducible refine (short_Parts.calls 4609434218613702656 64 t308 t309 t310 t311 _ A3.out).mono ?_); rintro e w43 ⟨rfl, hb⟩; refine ⟨_, rfl, ?_⟩; replace BK307 := kN (g := gb307) (cs := #[.string t304, .int .i64 t305]) hb bk; replace HB := bN bz hb; (try clear hb); (try clear hb2); (try clear hk); (try clear hi)))
   go_ret
   exact ⟨ez, bz⟩
 ·rw [if_neg c4] at H
  obtain ⟨c4b0, c4b1⟩ := eF c4
  obtain rfl := Option.some.inj H
  go_enter Tryd.func15, Tryd.ntmps15
  go_wp2_with (first | ((with_reducible refine gate_callee (f := 16) rfl ?_); refine goesL_ (some 11) rfl rfl Tryd.func16 (by kernel_rfl) rfl #[.agg #[.string (⟨#[49]⟩ : ByteArray), .int .i64 0], .int .i64 64] rfl lz ?_; (with_reducible refine (short_Read.calls k (⟨#[49]⟩ : ByteArray) 0 64 t302 t303 _ A1.out).mono ?_); rintro e w44 ⟨rfl, hb⟩; refine ⟨_, rfl, ?_⟩; replace HB := bN bz hb; (try clear hb); (try clear hb2); (try clear hk); (try clear hi)) | ((with_reducible refine gate_callee (f := 18) rfl ?_); refine goesL_ (some 15) rfl rfl Tryd.func18 (by kernel_rfl) rfl #[.int .u64 4591870180066957722, .int .i64 64] rfl lz ?_; (with_reducible refine (short_Shortest.calls k 4591870180066957722 64 t304 t305 t306 _ A2.out).mono ?_); rintro e w45 ⟨rfl, hb⟩; refine ⟨_, rfl, ?_⟩; replace HB := bN bz hb; (try clear hb); (try clear hb2); (try clear hk); (try clear hi)) | ((with_reducible refine gate_dst (N := 3) rfl ?_); refine box_event rfl (N := 3) rfl (cs := #[.string (⟨#[]⟩ : ByteArray), .int .i64 0]) (t := 28) gz ?_; intro gb307 hg w46 hbox hb; have GW307 := gN bz hg; have GE307 := gN bz hg; have BK307 := Aside0.mk hbox; replace HB := bN bz hb; clear hb hbox hg; obtain ⟨hcz47_0, hcz47_1, hfz47_0, hfz47_1⟩ := cz2 (W := w46) BK307) | ((with_reducible refine gate_callee (f := 13) rfl ?_); refine goesL_ (some 19) rfl rfl Tryd.func13 (by kernel_rfl) rfl #[.int .u64 4609434218613702656, .int .i64 64] rfl lz ?_; (with_reducible refine (short_Parts.calls 4609434218613702656 64 t308 t309 t310 t311 _ A3.out).mono ?_); rintro e w48 ⟨rfl, hb⟩; refine ⟨_, rfl, ?_⟩; replace BK307 := kN (g := gb307) (cs := #[.string t304, .int .i64 t305]) hb bk; replace HB := bN bz hb; (try clear hb); (try clear hb2); (try clear hk); (try clear hi)))
  go_ret
  exact ⟨ez, bz⟩
end Go.Proofs.YtmeapdchnnpceaaDoor.Fn
end
section
namespace Go.Proofs.YtmeapdchnnpceaaDoor.Pure
open Go.RowKit Go.Proofs.YtmeapdchnnpceaaDoorW.PrintWords Go.Proofs.YtmeapdchnnpceaaDoor.Fn
set_option linter.unusedVariables false
set_option linter.unusedSimpArgs false
theorem tenth_W : ∃ p, p + 1 = 4591870180066957722 ∧ p < 9218868437227405312 ∧ fW 52 p * 20 ≤ 2 ^ 1075 ∧ 2 ^ 1075 < fW 52 (p + 1) * 20 ∧ (fW 52 p + fW 52 (p + 1)) * 10 < 2 ^ 1075 := ⟨4591870180066957721, by decide +kernel⟩
theorem tenth_X (wide : Bool) : dX wide 1 (-1) * 10 = CC * 2 ^ uu wide := by
  have hv := vv_eq
  obtain ⟨u, hu⟩ : ∃ u, vv = u + 1 := ⟨vv - 1, by omega⟩
  unfold dX CC
  rw [hu, show (-1 + ((u + 1 : Nat) : Int)).toNat = u by omega, Nat.pow_succ, Nat.one_mul]
  rw [Nat.mul_assoc, Nat.mul_comm (2 ^ uu wide), ← Nat.mul_assoc]
theorem times10 {a X C L : Nat} (hX : X * 10 = C * L) (hC : 0 < C) : (a * (2 * C) ≤ X ↔ a * 20 ≤ L) ∧ (X < a * (2 * C) ↔ L < a * 20) ∧ (a * C < X ↔ a * 10 < L) := by
  have e1 : a * (2 * C) * 10 = C * (a * 20) := by
    rw [show (20 : Nat) = 2 * 10 from rfl]
    simp only [Nat.mul_assoc, Nat.mul_comm, Nat.mul_left_comm]
  have e2 : a * C * 10 = C * (a * 10) := by simp only [Nat.mul_assoc, Nat.mul_comm, Nat.mul_left_comm]
  refine ⟨?_, ?_, ?_⟩
  · rw [← Nat.mul_le_mul_right_iff (show 0 < 10 by decide), e1, hX, Nat.mul_le_mul_left_iff hC]
  · rw [← Nat.mul_lt_mul_right (show 0 < 10 by decide), e1, hX, Nat.mul_lt_mul_left hC]
  · rw [← Nat.mul_lt_mul_right (show 0 < 10 by decide), e2, hX, Nat.mul_lt_mul_left hC]
theorem tenth_read : rdX true (dX true 1 (-1)) = 4591870180066957722 := by
  obtain ⟨p, hp, hi, w1, w2, w3⟩ := tenth_W
  have hX := tenth_X true
  have hu : uu true = 1075 := rfl
  have hf : ff true = 52 := rfl
  have hii : ii true = 9218868437227405312 := rfl
  obtain ⟨L, hL⟩ : ∃ L, 2 ^ 1075 = L := ⟨_, rfl⟩
  rw [hu, hL] at hX
  rw [hL] at w1 w2 w3
  have hfl : fFloor (ff true) (ii true) (dX true 1 (-1)) (2 * CC) p := by
    rw [hf, hii]
    exact ⟨Nat.le_of_lt hi, (times10 hX CC_pos).1.2 w1, fun _ => (times10 hX CC_pos).2.1.2 w2⟩
  rw [rd_at true hfl, if_neg (by omega), hf, if_pos (.inl ((times10 hX CC_pos).2.2.2 w3))]
  exact hp
def tenthL : List UInt8 := [49,48,48,48,48,48,48,48,48,48,48,48,48,48,48,48,48,53,53,53,49,49,49,53,49,50,51,49,50,53,55,56,50,55,48,50,49,49,56,49,53,56,51,52,48,52,53,52,49,48,49,53,54,50,53]
theorem tenth_v : exV true 4591870180066957722 = (tenthL, 0) := by decide +kernel
theorem tenth_short : shortD true 4591870180066957722 = ([49], 0) := by
  unfold shortD
  rw [tenth_v]
  have hl : tenthL.length = 54 + 1 := by decide
  show shortGo true _ (tenthL, 0) tenthL.length 1 = _
  have hn : nearU (tenthL, 0) 1 = 1 := by decide +kernel
  have hE : cE (tenthL, 0) 1 = -1 := by unfold cE; rfl
  have hb : bestD true 4591870180066957722 (tenthL, 0) 1 = some ([49], 0) := by
    unfold bestD
    rw [if_neg (by rw [hl]; decide), hn, hE, if_pos (show isP true 4591870180066957722 1 (-1) from tenth_read)]
    rfl
  rw [hl, shortGo_step, hb]
  rfl
theorem short_tenth : shortS true 4591870180066957722 = (S [49], 0, 0) := by
  have hb : bareN true 4591870180066957722 = 4591870180066957722 := by decide
  unfold shortS
  rw [hb, if_neg (by decide), if_neg (by decide), tenth_short]
theorem read_tenth : rdS true (S [49]) 0 = (4591870180066957722, 0) := by
  have h1 : InForm ([49] : List UInt8) 0 := ⟨allD_one, fun c t h => by
    injection h with h1 h2
    rw [← h1]; decide, rfl, fun h => by cases h⟩
  rw [rdS_five true h1 (by decide)]
  have : dX true (val [49]) (0 - (([49] : List UInt8).length : Int)) = dX true 1 (-1) := by rw [val_one]; rfl
  rw [this, tenth_read]
  rfl
theorem parts_ex : partsS true 4609434218613702656 = (false, 6755399441055744, -52, 0) := by decide +kernel
theorem lives5 : Ev (fun k => platenlaw05_lives.f k) true := by
  have h1 := read_eq true (S [49]) 0
  rw [read_tenth] at h1
  have h2 := shortest_eq true 4591870180066957722 (by decide)
  rw [short_tenth] at h2
  have h3 := parts_eq true 4609434218613702656 (by decide)
  rw [parts_ex] at h3
  unfold platenlaw05_lives.f
  refine Ev.bind (g := fun k => short_Read.f k (⟨#[49]⟩ : ByteArray) 0 64) h1 ?_
  refine Ev.bind (g := fun k => short_Shortest.f k 4591870180066957722 64) h2 ?_
  refine Ev.congr (fun k => ?_) (Ev.now _)
  rw [show short_Parts.f 4609434218613702656 64 = some (false, 6755399441055744, -52, 0) from h3]
  simp [toList_L, L_S]
theorem livesEnd : Ev (fun k => (platenlaw05_lives.f k).bind fun t => some t) true := Ev.bind lives5 (Ev.now _)
theorem wf_u64 {a : Int} (h : (Lit.int .u64 a).wf = true) : ∃ n : Nat, a = n ∧ n < 18446744073709551616 := by
  have h2 : 0 ≤ a ∧ a < 18446744073709551616 := by
    simp [Lit.wf, IntKind.min, IntKind.max, IntKind.bits, IntKind.signed] at h
    omega
  exact ⟨a.toNat, by omega, by omega⟩
end Go.Proofs.YtmeapdchnnpceaaDoor.Pure
end
section
namespace Go.Proofs.YtmeapdchnnpceaaDoor.Fn
open Go.RowKit Go.Proofs.YtmeapdchnnpceaaDoorW.PrintWords Go.Proofs.YtmeapdchnnpceaaDoorW.PrintLast Go.Proofs.YtmeapdchnnpceaaDoorW.PrintMore
attribute [local go_sem] min2_int min_two
set_option linter.unusedVariables false
set_option linter.unusedSimpArgs false
def platenlaw05_exact.f (k : Nat) (a0 : Int) (a1 : Int) : Option (ByteArray × Int) := (short_Parts.f a0 a1).bind fun bt547 => ((bigdec_Exact.f k bt547.2.1 bt547.2.2.1).bind fun bt551 => (some (bt551.1, bt551.2.1)))
set_option maxHeartbeats 8000000 in
set_option maxRecDepth 100000 in
theorem platenlaw05_exact.calls (k : Nat) (a0 : Int) (a1 : Int) (r1 : ByteArray) (r2 : Int) (w : World) (h : platenlaw05_exact.f k a0 a1 = some (r1, r2)) :
  Calls Tryd.prog 22 #[.int .u64 a0, .int .i64 a1] w fun e w' => e = .returned (.agg #[.string r1, .int .i64 r2]) ∧ Below w.heap.size w w' := by
 have hu28 := Tryd.underlying28
 have HB := Aside0.mk (Below.refl w.heap.size w)
 have H : ((short_Parts.f a0 a1).bind fun bt547 => ((bigdec_Exact.f k bt547.2.1 bt547.2.2.1).bind fun bt551 => (some (bt551.1, bt551.2.1)))) = some (r1, r2) := h
 clear h
 replace H := bs H
 obtain ⟨⟨t547, t548, t549, t550⟩, A3, H⟩ := H
 dsimp only at H
 replace H := bs H
 obtain ⟨⟨t551, t552, t553⟩, A4, H⟩ := H
 dsimp only at H
 simp only [Option.some.injEq, Prod.mk.injEq] at H
 obtain ⟨rfl, rfl⟩ := H
 go_enter Tryd.func22, Tryd.ntmps22
 go_wp2_with (first | ((with_reducible refine gate_dst (N := 4) rfl ?_); refine box_event rfl (N := 4) rfl (cs := #[.string (⟨#[]⟩ : ByteArray), .int .i64 0]) (t := 28) gz ?_; intro gb546 hg w5 hbox hb; have GE546 := gN bz hg; have BK546 := Aside0.mk hbox; replace HB := bN bz hb; clear hb hbox hg) | ((with_reducible refine gate_callee (f := 13) rfl ?_); refine goesL_ (some 14) rfl rfl Tryd.func13 (by kernel_rfl) rfl #[.int .u64 a0, .int .i64 a1] rfl lz ?_; (with_reducible refine (short_Parts.calls a0 a1 t547 t548 t549 t550 _ A3.out).mono ?_); rintro e w6 ⟨rfl, hb⟩; refine ⟨_, rfl, ?_⟩; replace BK546 := kN (g := gb546) (cs := #[.string (⟨#[]⟩ : ByteArray), .int .i64 0]) hb bk; replace HB := bN bz hb; (try clear hb); (try clear hb2); (try clear hk); (try clear hi)) | ((with_reducible refine gate_callee (f := 25) rfl ?_); refine goesL_ (some 22) rfl rfl Tryd.func25 (by kernel_rfl) rfl #[.int .u64 t548, .int .i64 t549] rfl lz ?_; (with_reducible refine (bigdec_Exact.calls k t548 t549 t551 t552 t553 _ A4.out).mono ?_); rintro e w7 ⟨rfl, hb⟩; refine ⟨_, rfl, ?_⟩; replace BK546 := kN (g := gb546) (cs := #[.string (⟨#[]⟩ : ByteArray), .int .i64 0]) hb bk; replace HB := bN bz hb; (try clear hb); (try clear hb2); (try clear hk); (try clear hi)) | ((with_reducible refine gate_dst (N := 9) rfl ?_); refine box_event rfl (N := 9) rfl (cs := #[.string (⟨#[]⟩ : ByteArray), .int .i64 0]) (t := 28) gz ?_; intro gb554 hg w8 hbox hb; have GE554 := gN bz hg; have NB546_554 := lN (g := gb546) (cs := #[.string (⟨#[]⟩ : ByteArray), .int .i64 0]) hg bk; have NB554_546 := rN (g := gb546) (cs := #[.string (⟨#[]⟩ : ByteArray), .int .i64 0]) hg bk; replace BK546 := kN (g := gb546) (cs := #[.string (⟨#[]⟩ : ByteArray), .int .i64 0]) hb bk; have BK554 := Aside0.mk hbox; replace HB := bN bz hb; clear hb hbox hg; have hnb9 := NB554_546.out; have hnc9 := NB546_554.out; obtain ⟨hcz10_0, hcz10_1, hfz10_0, hfz10_1⟩ := cz2 (W := w8) BK554; obtain ⟨hcz11_0, hcz11_1, hfz11_0, hfz11_1⟩ := cz2 (W := w8) BK546))
 refine bodyPost_ret (results_cell_row rfl _ _ gb546 28 #[.string t551, .int .i64 t552] (0, 0) _ rfl bk Tryd.underlying28 rfl (by kernel_rfl)) rfl ?_
 exact ⟨ez, bz⟩
end Go.Proofs.YtmeapdchnnpceaaDoor.Fn
end
section
namespace Go.Proofs.YtmeapdchnnpceaaDoor.Pure
open Go.RowKit Go.Proofs.YtmeapdchnnpceaaDoorW.PrintWords Go.Proofs.YtmeapdchnnpceaaDoor.Fn
set_option linter.unusedVariables false
set_option linter.unusedSimpArgs false
theorem sized_law (wide : Bool) : platenlaw05_sized.f wide = some (szB wide) := by cases wide <;> rfl
theorem finite_eq (wide : Bool) (a : Nat) (ha : a < 18446744073709551616) : ∃ p : Nat, platenlaw05_finite.f (a : Int) (szB wide) = some (p : Int) ∧ p < ii wide := by
  cases wide
  · have hm := and_mask 31 a (by omega) ha
    have e : ((2 ^ 31 - 1 : Nat) : Int) = 2147483647 := rfl
    rw [e] at hm
    have hb : a % 2 ^ 31 < 2147483648 := Nat.mod_lt _ (by decide)
    unfold platenlaw05_finite.f szB ii
    simp only [Bool.false_eq_true, if_false, if_true]
    rw [hm]
    generalize a % 2 ^ 31 = q at *
    by_cases c : (q : Int) ≥ 2139095040
    · refine ⟨q - 2139095040, ?_, by omega⟩
      rw [if_pos c, show ((q : Int) - 2139095040) = ((q - 2139095040 : Nat) : Int) by omega, u64N _ (by omega)]
    · exact ⟨q, by rw [if_neg c], by omega⟩
  · have hm := and_mask 63 a (by omega) ha
    have e : ((2 ^ 63 - 1 : Nat) : Int) = 9223372036854775807 := rfl
    rw [e] at hm
    have hb : a % 2 ^ 63 < 9223372036854775808 := Nat.mod_lt _ (by decide)
    unfold platenlaw05_finite.f szB ii
    simp only [if_true]
    rw [if_neg (by decide), hm]
    generalize a % 2 ^ 63 = q at *
    by_cases c : (q : Int) ≥ 9218868437227405312
    · refine ⟨q - 9218868437227405312, ?_, by omega⟩
      rw [if_pos c, show ((q : Int) - 9218868437227405312) = ((q - 9218868437227405312 : Nat) : Int) by omega, u64N _ (by omega)]
    · exact ⟨q, by rw [if_neg c], by omega⟩
theorem bare_fin (wide : Bool) {p : Nat} (hp : p < ii wide) : bareN wide p = p := by
  have := (ii_lt wide).2.1
  exact Nat.mod_eq_of_lt (by omega)
theorem parts_fin (wide : Bool) {p : Nat} (hp : p < ii wide) : short_Parts.f (p : Int) (szB wide) = some (false, (fM (ff wide) p : Int), (fE (ff wide) p : Int) - (ll wide : Int), 0) := by
  have hi := ii_lt wide
  rw [parts_eq wide p (by omega)]
  unfold partsS
  rw [bare_fin wide hp, if_pos hp, Nat.div_eq_of_lt (by omega)]
  rfl
theorem exact_fin (wide : Bool) {p : Nat} (hp : p < ii wide) : Ev (fun k => bigdec_Exact.f k (fM (ff wide) p : Int) ((fE (ff wide) p : Int) - (ll wide : Int))) (S (exV wide p).1, (exV wide p).2, 0) := by
  have h1 := fEl wide (Nat.le_of_lt hp)
  have h2 := fE_le wide (Nat.le_of_lt hp)
  have h := exact_eq (fM (ff wide) p) ((fE (ff wide) p : Int) - (ll wide : Int)) (by omega)
  rw [exactS_exD _ (by omega)] at h
  exact h
theorem exactLaw_ev (wide : Bool) {p : Nat} (hp : p < ii wide) : Ev (fun k => platenlaw05_exact.f k (p : Int) (szB wide)) (S (exV wide p).1, (exV wide p).2) := by
  unfold platenlaw05_exact.f
  rw [parts_fin wide hp]
  simp only [Option.bind_some]
  exact Ev.bind (f := fun _ bt => some (bt.1, bt.2.1)) (exact_fin wide hp) (Ev.now _)
theorem exV_X (wide : Bool) {p : Nat} (hp : p < ii wide) : dX wide (val (exV wide p).1) ((exV wide p).2 - (exV wide p).1.length) = fW (ff wide) p * (2 * CC) := by
  have hv := exV_val wide hp
  have h1 := hv.len
  have h2 := hv.lo
  have h3 := vv_eq
  have hc := cmp_pattern wide (Nat.le_of_lt hp) (l := (exV wide p).1) (q := (exV wide p).2) hv.form (by omega)
  have h0 : cmpD (exV wide p).1 (exV wide p).2 (exV wide p).1 (exV wide p).2 = 0 := by
    unfold cmpD
    exact cmpN_self _
  have hc2 : cmpD (exV wide p).1 (exV wide p).2 (exV wide p).1 (exV wide p).2 = cmpN (fW (ff wide) p * (2 * CC)) (dX wide (val (exV wide p).1) ((exV wide p).2 - (exV wide p).1.length)) := hc
  rw [h0] at hc2
  exact ((cmpN_zero _ _).1 hc2.symm).symm
theorem rd_exact (wide : Bool) {p : Nat} (hp : p < ii wide) : rdX wide (fW (ff wide) p * (2 * CC)) = p := by
  have hC := CC_pos
  have m := mid_between (fW_lt (f := ff wide) (Nat.lt_succ_self p)) hC
  simp only [Nat.succ_eq_add_one] at m
  have hfl : fFloor (ff wide) (ii wide) (fW (ff wide) p * (2 * CC)) (2 * CC) p := ⟨Nat.le_of_lt hp, Nat.le_refl _, fun _ => Nat.lt_trans m.1 m.2⟩
  rw [rd_at wide hfl, if_neg (Nat.ne_of_lt hp), if_neg]
  rintro (h | h)
  · exact Nat.lt_asymm h m.1
  · exact absurd h.1 (Nat.ne_of_lt m.1)
theorem read_exact (wide : Bool) {p : Nat} (hp : p < ii wide) : rdS wide (S (exV wide p).1) (exV wide p).2 = ((p : Int), 0) := by
  have hv := exV_val wide hp
  rw [rdS_five wide hv.form hv.five, exV_X wide hp, rd_exact wide hp]
end Go.Proofs.YtmeapdchnnpceaaDoor.Pure
end
section
namespace Go.Proofs.YtmeapdchnnpceaaDoor.Pure
open Go.RowKit Go.Proofs.YtmeapdchnnpceaaDoorW.PrintWords Go.Proofs.YtmeapdchnnpceaaDoor.Fn
set_option linter.unusedVariables false
set_option linter.unusedSimpArgs false
theorem go_spec (wide : Bool) (p : Nat) (v : List UInt8 × Int) : ∀ d n, v.1.length ≤ n + d → ∃ N, n ≤ N ∧ bestD wide p v N = some (shortGo wide p v d n) ∧ ∀ j, n ≤ j → j < N → bestD wide p v j = none := by
  intro d
  induction d with
  | zero =>
    intro n h
    exact ⟨n, Nat.le_refl _, best_all wide p v h, fun j h1 h2 => absurd h1 (Nat.not_le.2 h2)⟩
  | succ d ih =>
    intro n h
    rw [shortGo_step]
    cases hb : bestD wide p v n with
    | some r => exact ⟨n, Nat.le_refl _, hb, fun j h1 h2 => absurd h1 (Nat.not_le.2 h2)⟩
    | none =>
      obtain ⟨N, h1, h2, h3⟩ := ih (n + 1) (by omega)
      refine ⟨N, by omega, h2, fun j h4 h5 => ?_⟩
      by_cases c : j = n
      · rw [c]; exact hb
      · exact h3 j (by omega) h5
theorem short_spec (wide : Bool) (p : Nat) : ∃ N, 1 ≤ N ∧ bestD wide p (exV wide p) N = some (shortD wide p) ∧ ∀ j, 1 ≤ j → j < N → bestD wide p (exV wide p) j = none :=
  go_spec wide p (exV wide p) (exV wide p).1.length 1 (Nat.le_add_left _ _)
theorem best_some {wide : Bool} {p : Nat} {v d : List UInt8 × Int} {n : Nat} (h : bestD wide p v n = some d) : (v.1.length ≤ n ∧ d = v) ∨ (n < v.1.length ∧ ∃ u, (u = cU v n ∨ u = cU v n + 1) ∧ d = decOf u (cE v n) ∧ isP wide p u (cE v n)) := by
  unfold bestD at h
  by_cases c1 : v.1.length ≤ n
  · rw [if_pos c1] at h
    exact .inl ⟨c1, (Option.some.inj h).symm⟩
  · rw [if_neg c1] at h
    refine .inr ⟨Nat.lt_of_not_le c1, ?_⟩
    by_cases c2 : isP wide p (nearU v n) (cE v n)
    · rw [if_pos c2] at h
      exact ⟨_, nearU_two v n, (Option.some.inj h).symm, c2⟩
    · rw [if_neg c2] at h
      by_cases c3 : isP wide p (cU v n) (cE v n)
      · rw [if_pos c3] at h
        exact ⟨_, .inl rfl, (Option.some.inj h).symm, c3⟩
      · rw [if_neg c3] at h
        by_cases c4 : isP wide p (cU v n + 1) (cE v n)
        · rw [if_pos c4] at h
          exact ⟨_, .inr rfl, (Option.some.inj h).symm, c4⟩
        · rw [if_neg c4] at h
          cases h
theorem best_none {wide : Bool} {p : Nat} {v : List UInt8 × Int} {n : Nat} (h : bestD wide p v n = none) : n < v.1.length ∧ ¬ isP wide p (nearU v n) (cE v n) ∧ ¬ isP wide p (cU v n) (cE v n) ∧ ¬ isP wide p (cU v n + 1) (cE v n) := by
  unfold bestD at h
  by_cases c1 : v.1.length ≤ n
  · rw [if_pos c1] at h; cases h
  · rw [if_neg c1] at h
    refine ⟨Nat.lt_of_not_le c1, ?_⟩
    by_cases c2 : isP wide p (nearU v n) (cE v n)
    · rw [if_pos c2] at h; cases h
    · rw [if_neg c2] at h
      by_cases c3 : isP wide p (cU v n) (cE v n)
      · rw [if_pos c3] at h; cases h
      · rw [if_neg c3] at h
        by_cases c4 : isP wide p (cU v n + 1) (cE v n)
        · rw [if_pos c4] at h; cases h
        · exact ⟨c2, c3, c4⟩
theorem dec_len {u n : Nat} {e : Int} (h : u ≤ 10 ^ n) (hn : 1 ≤ n) : (decOf u e).1.length ≤ n := by
  by_cases c : u < 10 ^ n
  · exact (decOf_bound c e).1
  · have e1 : u = 1 * 10 ^ n := by omega
    have h2 := decOf_scale 1 n (e + n)
    rw [Int.add_sub_cancel] at h2
    rw [e1, h2]
    exact Nat.le_trans (decOf_bound (n := 1) (m := 1) (by decide) (e + n)).1 hn
theorem best_len {wide : Bool} {p : Nat} {v d : List UInt8 × Int} (hv : Val wide p v) {n : Nat} (hn : 1 ≤ n) (h : bestD wide p v n = some d) : d.1.length ≤ n := by
  rcases best_some h with ⟨h1, rfl⟩ | ⟨h1, u, h2, rfl, _⟩
  · exact h1
  · have := (cand hv h1).1
    exact dec_len (by rcases h2 with h2 | h2 <;> omega) hn
theorem best_read {wide : Bool} {p : Nat} {d : List UInt8 × Int} (hp : p < ii wide) {n : Nat} (h : bestD wide p (exV wide p) n = some d) : rdS wide (S d.1) d.2 = ((p : Int), 0) := by
  have hv := exV_val wide hp
  rcases best_some h with ⟨h1, rfl⟩ | ⟨h1, u, h2, rfl, h3⟩
  · exact read_exact wide hp
  · obtain ⟨g1, g2, g3, g4, g5, g6, g7⟩ := cand hv h1
    have hu : u < 10 ^ (n + 1) := by
      have : 10 ^ n ≤ 10 ^ (n + 1) := Nat.pow_le_pow_right (by decide) (Nat.le_succ n)
      rcases h2 with h2 | h2 <;> omega
    rw [rdS_dec wide hu g4 g5 g7]
    rw [show rdX wide (dX wide u (cE (exV wide p) n)) = p from h3]
theorem rd_cand {wide : Bool} {p : Nat} (hp : p < ii wide) {n u : Nat} (hn : n < (exV wide p).1.length) (hu : u = cU (exV wide p) n ∨ u = cU (exV wide p) n + 1) :
    rdS wide (S (decOf u (cE (exV wide p) n)).1) (decOf u (cE (exV wide p) n)).2 = ((rdX wide (dX wide u (cE (exV wide p) n)) : Int), 0) := by
  obtain ⟨g1, g2, g3, g4, g5, g6, g7⟩ := cand (exV_val wide hp) hn
  have hu : u < 10 ^ (n + 1) := by
    have : 10 ^ n ≤ 10 ^ (n + 1) := Nat.pow_le_pow_right (by decide) (Nat.le_succ n)
    rcases hu with h2 | h2 <;> omega
  exact rdS_dec wide hu g4 g5 g7
theorem near_num {l : List UInt8} {q : Int} (hall : AllD l) (h0 : Head0 l) (hq : -1200 ≤ q) (hL : l.length ≤ 1300) (wide : Bool) {n : Nat} (hn : n < l.length) (h1 : 1 ≤ n) :
    ∃ U, 2 * dX wide (val l) (q - l.length) ≤ 2 * dX wide (nearU (l, q) n) (cE (l, q) n) + U ∧ 2 * dX wide (nearU (l, q) n) (cE (l, q) n) ≤ 2 * dX wide (val l) (q - l.length) + U ∧ U * 10 ^ (n - 1) ≤ dX wide (val l) (q - l.length) := by
  have hvv := vv_eq
  have hcut := sv_cut (a := l) (Nat.le_of_lt hn)
  have hge := val_ge hall h0 (by intro e; rw [e] at hn; exact absurd hn (Nat.not_lt_zero _))
  obtain ⟨j, hj⟩ : ∃ j : Nat, q - (l.length : Int) + (vv : Int) = (j : Int) := ⟨(q - (l.length : Int) + (vv : Int)).toNat, by omega⟩
  have e1 : (q - (l.length : Int) + (vv : Int)).toNat = j := by omega
  have e2 : (cE (l, q) n + (vv : Int)).toNat = (l.length - n) + j := by show (q - (n : Int) + (vv : Int)).toNat = _; omega
  have e3 : l.length - 1 = (n - 1) + (l.length - n) := by omega
  rw [e3, Nat.pow_add] at hge
  have hdn : (downP l n → 2 * val (l.drop n) ≤ 10 ^ (l.length - n)) ∧ (¬ downP l n → 10 ^ (l.length - n) ≤ 2 * val (l.drop n)) := by
    unfold downP
    constructor
    · rintro (h | h)
      · exact Nat.le_of_lt h
      · exact Nat.le_of_eq h.1
    · intro h
      exact Nat.le_of_not_lt fun h2 => h (.inl h2)
  have hY : ∀ u : Nat, dX wide u (cE (l, q) n) = u * 10 ^ (l.length - n) * (10 ^ j * 2 ^ uu wide) := fun u => by
    unfold dX
    rw [e2, Nat.pow_add]
    simp only [Nat.mul_assoc]
  have hV : dX wide (val l) (q - l.length) = val l * (10 ^ j * 2 ^ uu wide) := by
    unfold dX
    rw [e1, Nat.mul_assoc]
  rw [hY, hV, hcut]
  generalize 10 ^ j * 2 ^ uu wide = w at *
  rw [hcut] at hge
  have hcU : nearU (l, q) n = if downP l n then val (l.take n) else val (l.take n) + 1 := rfl
  rw [hcU]
  have hrT : val (l.drop n) < 10 ^ (l.length - n) := by
    have := val_lt (hall.drop n)
    rw [List.length_drop] at this
    exact this
  generalize 10 ^ (l.length - n) = T at *
  generalize val (l.drop n) = r at *
  generalize val (l.take n) = c at *
  generalize 10 ^ (n - 1) = N at *
  refine ⟨T * w, ?_, ?_, ?_⟩
  · by_cases d : downP l n
    · rw [if_pos d]
      have := Nat.mul_le_mul_right w (hdn.1 d)
      have a1 := Nat.add_mul (c * T) r w
      have a2 := Nat.mul_assoc 2 r w
      omega
    · rw [if_neg d]
      have a1 := Nat.add_mul (c * T) r w
      have a3 : (c + 1) * T * w = c * T * w + T * w := by rw [Nat.add_mul, Nat.one_mul, Nat.add_mul]
      have := Nat.mul_le_mul_right w (Nat.le_of_lt hrT)
      omega
  · by_cases d : downP l n
    · rw [if_pos d]
      have a1 := Nat.add_mul (c * T) r w
      omega
    · rw [if_neg d]
      have := Nat.mul_le_mul_right w (hdn.2 d)
      have a1 := Nat.add_mul (c * T) r w
      have a2 := Nat.mul_assoc 2 r w
      have a3 : (c + 1) * T * w = c * T * w + T * w := by rw [Nat.add_mul, Nat.one_mul, Nat.add_mul]
      omega
  · have := Nat.mul_le_mul_right w hge
    rw [Nat.mul_comm (T * w), ← Nat.mul_assoc]
    exact this
theorem span_num {V Y U G N m C lo hi : Nat} (h1 : 2 * V ≤ 2 * Y + U) (h2 : 2 * Y ≤ 2 * V + U) (h3 : U * N ≤ V) (hV : V = 2 * (m * G)) (hN : 2 * m ≤ 2 * N ∧ 0 < N) (hm : m < N) (hG : 0 < G) : U < 2 * G := by
  refine Nat.lt_of_not_le fun c => ?_
  have h4 : 2 * G * N ≤ U * N := Nat.mul_le_mul_right _ c
  have h5 : m * G < N * G := Nat.mul_lt_mul_of_pos_right hm hG
  have h6 : 2 * G * N = 2 * (N * G) := by rw [Nat.mul_assoc, Nat.mul_comm G N]
  omega
end Go.Proofs.YtmeapdchnnpceaaDoor.Pure
end
section
namespace Go.Proofs.YtmeapdchnnpceaaDoor.Pure
open Go.RowKit Go.Proofs.YtmeapdchnnpceaaDoorW.PrintWords Go.Proofs.YtmeapdchnnpceaaDoor.Fn
set_option linter.unusedVariables false
set_option linter.unusedSimpArgs false
theorem shortS_fin (wide : Bool) {p : Nat} (hp : p < ii wide) : shortS wide p = if p = 0 then (⟨#[]⟩, 0, 0) else (S (shortD wide p).1, (shortD wide p).2, 0) := by
  unfold shortS
  rw [bare_fin wide hp, if_neg (by omega)]
theorem gap_ge {V Y U g A B : Nat} (h1 : 2 * V ≤ 2 * Y + U) (h2 : 2 * Y ≤ 2 * V + U) (hU : U < 2 * g) (hA : V = A + g) (hB : V + g ≤ B) : A < Y ∧ Y < B := by omega
theorem lo_gap {a b w C : Nat} (h : a + w = b) : b * (2 * C) = (a + b) * C + w * C := by
  subst h
  rw [← Nat.add_mul, Nat.mul_comm 2 C, ← Nat.mul_assoc, Nat.mul_comm _ 2, ← Nat.mul_assoc, show 2 * (a + w) = a + (a + w) + w by omega]
theorem hi_gap {b c w g C : Nat} (h : c = b + w) (hg : g ≤ w) : b * (2 * C) + g * C ≤ (b + c) * C := by
  subst h
  have h1 : b * (2 * C) = 2 * b * C := by rw [← Nat.mul_assoc, Nat.mul_comm b 2]
  rw [h1, ← Nat.add_mul]
  exact Nat.mul_le_mul_right C (by omega)
theorem near_in (wide : Bool) {p : Nat} (hp : 0 < p) (hi : p < ii wide) {n : Nat} (hn : n < (exV wide p).1.length) (h1 : 1 ≤ n) (hN : 2 ^ (ff wide + 1) < 10 ^ (n - 1)) : isP wide p (nearU (exV wide p) n) (cE (exV wide p) n) := by
  have hv := exV_val wide hi
  obtain ⟨U, u1, u2, u3⟩ := near_num (l := (exV wide p).1) (q := (exV wide p).2) hv.form.1 hv.form.2.1 hv.lo hv.len wide hn h1
  rw [exV_X wide hi] at u1 u2 u3
  unfold isP
  rw [← inX_iff wide hp hi]
  refine .inl ?_
  unfold loX hiX
  change 2 * _ ≤ 2 * dX wide (nearU (exV wide p) n) (cE (exV wide p) n) + U at u1
  change 2 * dX wide (nearU (exV wide p) n) (cE (exV wide p) n) ≤ _ at u2
  generalize dX wide (nearU (exV wide p) n) (cE (exV wide p) n) = Y at *
  generalize 10 ^ (n - 1) = N at *
  have hC := CC_pos
  have hs := fW_step (ff wide) p
  have hq := fW_pred (f := ff wide) hp
  have hm := fM_lt (ff wide) p
  have hW : fW (ff wide) p = fM (ff wide) p * 2 ^ fE (ff wide) p := rfl
  obtain ⟨m, hVm, hmN, hle⟩ : ∃ m, fW (ff wide) p = m * 2 ^ fE (ff wide) (p - 1) ∧ m < N ∧ 2 ^ fE (ff wide) (p - 1) ≤ 2 ^ fE (ff wide) p := by
    by_cases c : fM (ff wide) p ≠ 2 ^ ff wide ∨ fE (ff wide) p = 0
    · have e := fE_pred hp c
      rw [e]
      exact ⟨_, hW, Nat.lt_trans hm hN, Nat.le_refl _⟩
    · have c1 : fM (ff wide) p = 2 ^ ff wide := Classical.byContradiction fun h => c (.inl h)
      have c2 : fE (ff wide) p ≠ 0 := fun h => c (.inr h)
      have e := fE_pred2 c1 c2
      refine ⟨2 ^ (ff wide + 1), ?_, hN, Nat.pow_le_pow_right (by decide) (by omega)⟩
      rw [hW, c1, ← e, Nat.pow_succ 2 (fE _ _), Nat.pow_succ 2 (ff wide), ← Nat.mul_assoc, Nat.mul_right_comm]
  have hg : 0 < 2 ^ fE (ff wide) (p - 1) * CC := Nat.mul_pos (two_pos _) hC
  have hV : fW (ff wide) p * (2 * CC) = 2 * (m * (2 ^ fE (ff wide) (p - 1) * CC)) := by
    rw [hVm, Nat.mul_comm 2 CC, ← Nat.mul_assoc, Nat.mul_comm _ 2, Nat.mul_assoc m]
  have hU := span_num (C := 0) (lo := 0) (hi := 0) u1 u2 u3 hV ⟨by omega, by omega⟩ hmN hg
  have hA := lo_gap (C := CC) hq
  have hB := hi_gap (C := CC) hs hle
  exact gap_ge u1 u2 hU hA hB
theorem dg_pow (wide : Bool) : 2 ^ (ff wide + 1) < 10 ^ ((if wide then 17 else 9) - 1) := by cases wide <;> decide
theorem short_len (wide : Bool) {p : Nat} (hp : p < ii wide) (h0 : p ≠ 0) : (shortD wide p).1.length ≤ if wide then 17 else 9 := by
  obtain ⟨n, hn⟩ : ∃ n : Nat, (if wide then 17 else 9) = n := ⟨_, rfl⟩
  have hpow := dg_pow wide
  rw [hn] at hpow ⊢
  have hn1 : 1 ≤ n := by rw [← hn]; cases wide <;> decide
  obtain ⟨M, h1, h2, h3⟩ := short_spec wide p
  have hle : M ≤ n := by
    refine Nat.le_of_not_lt fun c => ?_
    have h4 := best_none (h3 n hn1 c)
    exact h4.2.1 (near_in wide (Nat.pos_of_ne_zero h0) hp h4.1 hn1 hpow)
  exact Nat.le_trans (best_len (exV_val wide hp) h1 h2) hle
theorem short_err (wide : Bool) {p : Nat} (hp : p < ii wide) : (shortS wide p).2.2 = 0 := by
  rw [shortS_fin wide hp]; split <;> rfl
theorem short_size (wide : Bool) {p : Nat} (hp : p < ii wide) : (shortS wide p).1.size ≤ if wide then 17 else 9 := by
  rw [shortS_fin wide hp]
  by_cases c : p = 0
  · rw [if_pos c]; exact Nat.zero_le _
  · rw [if_neg c]
    show (S (shortD wide p).1).size ≤ _
    rw [size_S]
    exact short_len wide hp c
theorem ii_two (wide : Bool) : ii wide < 18446744073709551616 := by cases wide <;> decide
end Go.Proofs.YtmeapdchnnpceaaDoor.Pure
end
section
namespace Go.Proofs.YtmeapdchnnpceaaDoor.Fn
open Go.RowKit Go.Proofs.YtmeapdchnnpceaaDoorW.PrintWords Go.Proofs.YtmeapdchnnpceaaDoorW.PrintLast Go.Proofs.YtmeapdchnnpceaaDoorW.PrintMore
attribute [local go_sem] min2_int min_two
set_option linter.unusedVariables false
set_option linter.unusedSimpArgs false
def platenlaw05_ShortLeast.j0 : Nat → Int → Int → Int → Bool → ByteArray → Int → Option (Bool)
 | 0, _, _, _, _, _, _ => none
 | k + 1, x5, x6, x9, x46, x565000, x565001 => if x46 = true then ((platenlaw05_lives.f k).bind fun t565 => (some t565)) else (if 0 ≤ x9 then (if x9 ≤ (x565000.size : Int) then ((bigdec_Add.f k (x565000.extract 0 (x9 : Int).toNat) x565001 (⟨#[49]⟩ : ByteArray) (wrap64 ((wrap64 (x565001 - x9)) + 1))).bind fun bt567 => ((short_Read.f k (x565000.extract 0 (x9 : Int).toNat) x565001 x6).bind fun bt571 => ((short_Read.f k bt567.1 bt567.2.1 x6).bind fun bt573 => (if bt567.2.2 = 0 then (if bt571.2 = 0 then (if bt573.2 = 0 then (if bt571.1 = x5 then (some false) else (if bt573.1 = x5 then (some false) else ((platenlaw05_lives.f k).bind fun t575 => (some t575)))) else (some false)) else (some false)) else (some false))))) else (none)) else (none))
def platenlaw05_ShortLeast.f (k : Nat) (a0 : Int) (a1 : Bool) : Option (Bool) := (platenlaw05_sized.f a1).bind fun t555 => ((platenlaw05_finite.f a0 t555).bind fun t556 => ((platenlaw05_sized.f a1).bind fun t557 => ((short_Shortest.f k t556 t557).bind fun bt558 => (if bt558.2.2 = 0 then ((platenlaw05_exact.f k t556 t557).bind fun bt562 => (if (wrap64 ((bt558.1.size : Int) - 1)) < 1 then (platenlaw05_ShortLeast.j0 k t556 t557 (wrap64 ((bt558.1.size : Int) - 1)) true bt562.1 bt562.2) else (platenlaw05_ShortLeast.j0 k t556 t557 (wrap64 ((bt558.1.size : Int) - 1)) (decide ((wrap64 ((bt558.1.size : Int) - 1)) ≥ (bt562.1.size : Int))) bt562.1 bt562.2))) else (some false)))))
def platenlaw05_ShortLeast.T9 : Bool × List (List Nat × List Nat) := (true, [([], []), ([0], [0]), ([], []), ([1, 2], [1, 2]), ([], []), ([4], [4]), ([3, 5], [3, 5]), ([], []), ([7, 6, 0, 1, 2, 3, 4, 5, 6, 7], [6, 7])])
def platenlaw05_ShortLeast.B9 : List Nat := [0, 1, 0, 7, 0, 16, 63, 0, 255]
theorem platenlaw05_ShortLeast.tab9 : rtab .any (opsOf Tryd.f7 9) = platenlaw05_ShortLeast.T9 := by kernel_rfl
theorem platenlaw05_ShortLeast.bits9 : waitsOk platenlaw05_ShortLeast.T9.2 platenlaw05_ShortLeast.B9 = true := by kernel_rfl
set_option maxHeartbeats 8000000 in
set_option maxRecDepth 100000 in
theorem platenlaw05_ShortLeast.calls (k : Nat) (a0 : Int) (a1 : Bool) (r : Bool) (w : World) (h : platenlaw05_ShortLeast.f k a0 a1 = some r) :
  Calls Tryd.prog 7 #[.int .u64 a0, .bool a1] w fun e w' => e = .returned (.bool r) ∧ Below w.heap.size w w' := by
 have hu28 := Tryd.underlying28
 have HB := Aside0.mk (Below.refl w.heap.size w)
 have H : ((platenlaw05_sized.f a1).bind fun t555 => ((platenlaw05_finite.f a0 t555).bind fun t556 => ((platenlaw05_sized.f a1).bind fun t557 => ((short_Shortest.f k t556 t557).bind fun bt558 => (if bt558.2.2 = 0 then ((platenlaw05_exact.f k t556 t557).bind fun bt562 => (if (wrap64 ((bt558.1.size : Int) - 1)) < 1 then (platenlaw05_ShortLeast.j0 k t556 t557 (wrap64 ((bt558.1.size : Int) - 1)) true bt562.1 bt562.2) else (platenlaw05_ShortLeast.j0 k t556 t557 (wrap64 ((bt558.1.size : Int) - 1)) (decide ((wrap64 ((bt558.1.size : Int) - 1)) ≥ (bt562.1.size : Int))) bt562.1 bt562.2))) else (some false)))))) = some r := h
 clear h
 replace H := bs H
 obtain ⟨t555, A3, H⟩ := H
 replace H := bs H
 obtain ⟨t556, A4, H⟩ := H
 replace H := bs H
 obtain ⟨t557, A5, H⟩ := H
 replace H := bs H
 obtain ⟨⟨t558, t559, t560⟩, A6, H⟩ := H
 dsimp only at H
 go_enter Tryd.func7, Tryd.ntmps7
 go_upto_if 30 with (first | ((with_reducible refine gate_callee (f := 21) rfl ?_); refine goesL_ (some 19) rfl rfl Tryd.func21 (by kernel_rfl) rfl #[.bool a1] rfl lz ?_; (with_reducible refine (platenlaw05_sized.calls a1 t555 _ A3.out).mono ?_); rintro e w' ⟨rfl, ⟨nd, rfl⟩⟩; refine ⟨_, rfl, ?_⟩) | ((with_reducible refine gate_callee (f := 20) rfl ?_); refine goesL_ (some 20) rfl rfl Tryd.func20 (by kernel_rfl) rfl #[.int .u64 a0, .int .i64 t555] rfl lz ?_; (with_reducible refine (platenlaw05_finite.calls a0 t555 t556 _ A4.out).mono ?_); rintro e w' ⟨rfl, ⟨nd, rfl⟩⟩; refine ⟨_, rfl, ?_⟩) | ((with_reducible refine gate_callee (f := 21) rfl ?_); refine goesL_ (some 22) rfl rfl Tryd.func21 (by kernel_rfl) rfl #[.bool a1] rfl lz ?_; (with_reducible refine (platenlaw05_sized.calls a1 t557 _ A5.out).mono ?_); rintro e w' ⟨rfl, ⟨nd, rfl⟩⟩; refine ⟨_, rfl, ?_⟩) | ((with_reducible refine gate_callee (f := 18) rfl ?_); refine goesL_ (some 26) rfl rfl Tryd.func18 (by kernel_rfl) rfl #[.int .u64 t556, .int .i64 t557] rfl lz ?_; (with_reducible refine (short_Shortest.calls k t556 t557 t558 t559 t560 _ A6.out).mono ?_); rintro e w7 ⟨rfl, hb⟩; refine ⟨_, rfl, ?_⟩; replace HB := bN bz hb; (try clear hb); (try clear hb2); (try clear hk); (try clear hi)) | ((with_reducible refine gate_dst (N := 7) rfl ?_); (try (refine gate_guard (by rfl) ?_; dsimp only)); refine box_event rfl (N := 7) rfl (cs := #[.string (⟨#[]⟩ : ByteArray), .int .i64 0]) (t := 28) gz ?_; intro gb561 hg w8 hbox hb; have GE561 := gN bz hg; have BK561 := Aside0.mk hbox; replace HB := bN bz hb; clear hb hbox hg; obtain ⟨hcz9_0, hcz9_1, hfz9_0, hfz9_1⟩ := cz2 (W := w8) BK561))
 (try simp only [Act.put, List.setIfInBounds_toArray, List.set_cons_zero, List.set_cons_succ])
 by_cases c10 : t560 = 0
 ·rw [if_pos c10] at H
  obtain ⟨c10b0, c10b1⟩ := eT c10
  clear c10
  try first | rw [c10b0] | rw [c10b1]
  replace H := bs H
  obtain ⟨⟨t562, t563⟩, A11, H⟩ := H
  dsimp only at H
  have HC12 := Aside0.mk H
  clear H
  obtain ⟨hcz13_0, hcz13_1, hfz13_0, hfz13_1⟩ := cz2 (W := w8) BK561
  go_upto_region 7 with (first | ((with_reducible refine gate_callee (f := 22) rfl ?_); refine goesL_ (some 37) rfl rfl Tryd.func22 (by kernel_rfl) rfl #[.int .u64 t556, .int .i64 t557] rfl lz ?_; (with_reducible refine (platenlaw05_exact.calls k t556 t557 t562 t563 _ A11.out).mono ?_); rintro e w14 ⟨rfl, hb⟩; refine ⟨_, rfl, ?_⟩; replace BK561 := kN (g := gb561) (cs := #[.string t558, .int .i64 t559]) hb bk; replace HB := bN bz hb; (try clear hb); (try clear hb2); (try clear hk); (try clear hi)) | ((with_reducible refine gate_dst (N := 10) rfl ?_); (try (refine gate_guard (by rfl) ?_; dsimp only)); refine box_event rfl (N := 10) rfl (cs := #[.string (⟨#[]⟩ : ByteArray), .int .i64 0]) (t := 28) gz ?_; intro gb564 hg w15 hbox hb; have GE564 := gN bz hg; have NB561_564 := lN (g := gb561) (cs := #[.string t558, .int .i64 t559]) hg bk; have NB564_561 := rN (g := gb561) (cs := #[.string t558, .int .i64 t559]) hg bk; replace BK561 := kN (g := gb561) (cs := #[.string t558, .int .i64 t559]) hb bk; have BK564 := Aside0.mk hbox; replace HB := bN bz hb; clear hb hbox hg; have hnb16 := NB564_561.out; have hnc16 := NB561_564.out; obtain ⟨hcz17_0, hcz17_1, hfz17_0, hfz17_1⟩ := cz2 (W := w15) BK564))
  (try simp only [Act.put, List.setIfInBounds_toArray, List.set_cons_zero, List.set_cons_succ])
  go_cut [46] (fun v46 wc => ∃ (kq : Nat) (x46_11 : Bool), v46 = .bool x46_11 ∧ Aside0 (platenlaw05_ShortLeast.j0 kq t556 t557 (wrap64 ((t558.size : Int) - 1)) x46_11 t562 t563 = some r) ∧ Aside0 (kq ≤ k) ∧ Aside0 (wc.heap[gb561]? = some (.cells #[.string t558, .int .i64 t559] 28 (0, 0))) ∧ Aside0 (wc.heap[gb564]? = some (.cells #[.string t562, .int .i64 t563] 28 (0, 0))) ∧ Aside0 (Below w.heap.size w wc))
  case first =>
   have H := HC12.out
   clear HC12
   by_cases c18 : (wrap64 ((t558.size : Int) - 1)) < 1
   ·rw [if_pos c18] at H
    have c18b0 := decide_eq_true c18
    clear c18
    (first | rw [c18b0] | (simp only [i64_w, i32_w]; rw [c18b0]) | skip)
    have H' := Aside0.mk H
    clear H
    go_wp2
    go_meet
    case rel => exact ⟨_, (true), rz, H', ⟨by first | omega | exact Nat.le_refl _⟩, ⟨bk⟩, ⟨bk⟩, ⟨bz⟩⟩
   ·rw [if_neg c18] at H
    have c18b0 := decide_eq_false c18
    clear c18
    (first | rw [c18b0] | (simp only [i64_w, i32_w]; rw [c18b0]) | skip)
    have H' := Aside0.mk H
    clear H
    have hnb19 := NB564_561.out
    have hnc19 := NB561_564.out
    obtain ⟨hcz20_0, hcz20_1, hfz20_0, hfz20_1⟩ := cz2 (W := w15) BK564
    go_wp2
    go_meet
    case rel => exact ⟨_, (decide ((wrap64 ((t558.size : Int) - 1)) ≥ (t562.size : Int))), rz, H', ⟨by first | omega | exact Nat.le_refl _⟩, ⟨bk⟩, ⟨bk⟩, ⟨bz⟩⟩
  case rest =>
   clear HC12
   try clear c10
   try clear c10b0
   try clear c10b1
   try clear c18
   try clear c18b0
   try clear hcz13_0 hcz13_1 hfz13_0 hfz13_1
   try clear hcz17_0 hcz17_1 hfz17_0 hfz17_1
   try clear hcz20_0 hcz20_1 hfz20_0 hfz20_1
   try clear hcz9_0 hcz9_1 hfz9_0 hfz9_1
   obtain ⟨kq, x46_11, rfl, HA, HJ11, BK561, BK564, HB⟩ := hcut
   cases kq with
   | zero => exact absurd HA.out (by simp [platenlaw05_ShortLeast.j0])
   | succ kj11 =>
    have H := HA.out
    clear HA
    simp only [platenlaw05_ShortLeast.j0] at H
    by_cases c21 : x46_11 = true
    ·subst c21
     replace H := hT H
     replace H := bs H
     obtain ⟨t565, A22, H⟩ := H
     obtain rfl := Option.some.inj H
     go_wp2_with (first | ((with_reducible refine gate_callee (f := 15) rfl ?_); refine goesL_ (some 47) rfl rfl Tryd.func15 (by kernel_rfl) rfl #[] rfl lz ?_; (with_reducible refine (platenlaw05_lives.calls kj11  t565 _ A22.out).mono ?_); rintro e w23 ⟨rfl, hb⟩; refine ⟨_, rfl, ?_⟩; replace BK561 := kN (g := gb561) (cs := #[.string t558, .int .i64 t559]) hb bk; replace BK564 := kN (g := gb564) (cs := #[.string t562, .int .i64 t563]) hb bk; replace HB := bN bz hb; (try clear hb); (try clear hb2); (try clear hk); (try clear hi)))
     go_ret
     exact ⟨ez, bz⟩
    ·replace c21 := Bool.eq_false_iff.mpr c21
     subst c21
     replace H := hF H
     obtain ⟨ji24, hji24⟩ : ∃ j_ : Int, (wrap64 ((t558.size : Int) - 1)) = j_ := ⟨_, rfl⟩
     (first | rw [hji24] at H | simp only [hji24] at H)
     have hji24w : (IntKind.i64.wrap ((t558.size : Int) - 1)) = ji24 := (i64_w _).trans hji24
     by_cases c25 : 0 ≤ (ji24)
     ·rw [if_pos c25] at H
      have c25b0 := eq_true c25
      have c25b1 : decide (0 ≤ (ji24)) = true := decide_eq_true c25
      clear c25
      by_cases c26 : (ji24) ≤ (t562.size : Int)
      ·rw [if_pos c26] at H
       have c26b0 := eq_true c26
       have c26b1 : decide ((ji24) ≤ (t562.size : Int)) = true := decide_eq_true c26
       clear c26
       replace H := bs H
       obtain ⟨⟨t567, t568, t569⟩, A27, H⟩ := H
       dsimp only at H
       replace H := bs H
       obtain ⟨⟨t571, t572⟩, A28, H⟩ := H
       dsimp only at H
       replace H := bs H
       obtain ⟨⟨t573, t574⟩, A29, H⟩ := H
       dsimp only at H
       by_cases c30 : t569 = 0
       ·rw [if_pos c30] at H
        obtain ⟨c30b0, c30b1⟩ := eT c30
        clear c30
        by_cases c31 : t572 = 0
        ·rw [if_pos c31] at H
         obtain ⟨c31b0, c31b1⟩ := eT c31
         clear c31
         by_cases c32 : t574 = 0
         ·rw [if_pos c32] at H
          obtain ⟨c32b0, c32b1⟩ := eT c32
          clear c32
          by_cases c33 : t571 = t556
          ·rw [if_pos c33] at H
           obtain ⟨c33b0, c33b1⟩ := eT c33
           clear c33
           obtain rfl := Option.some.inj H
           try go_wp2
           replace BK561 := Aside0.mk (blk_drew BK561.out)
           replace BK564 := Aside0.mk (blk_drew BK564.out)
           replace HB := Aside0.mk (below_drew1 HB.out)
           refine start_ (n := 9) (S := fun w' => w'.cell? ⟨gb564, 0, none⟩ = some (.string t562) ∧ w'.cell? ⟨gb564, 1, none⟩ = some (.int .i64 t563)) (ds := []) #[false, false, false, false, false, false, false, false, false] (by kernel_rfl) rfl rfl ⟨(blk_cell BK564.out 0).trans rfl, (blk_cell BK564.out 1).trans rfl⟩ (fun hHeld => ?_); refine with_tabW platenlaw05_ShortLeast.tab9 platenlaw05_ShortLeast.bits9 (fun HT_ HW_ => ?_)
           generalize wc.drew = w34 at BK561 BK564 HB hHeld ⊢
           refine pure_ (i := 0) (N := some 48) (v := ?_) (a' := ?_) #[true, false, false, false, false, false, false, false, false] rfl rfl (any_of HT_.out (by kernel_rfl)) (fun _ _ _ h => h) (Or.inl ⟨by rfl, ?_⟩) ?_ ?_
           rotate_left
           ·intro w'
            go_simp
            with_reducible rfl
           rotate_left
           ·simp only [Act.put, List.setIfInBounds_toArray, List.set_cons_zero, List.set_cons_succ, i64_w, i32_w]
            rfl
           refine pure_ (i := 2) (N := some 50) (v := ?_) (a' := ?_) #[true, false, true, false, false, false, false, false, false] rfl rfl (any_of HT_.out (by kernel_rfl)) (fun _ _ _ h => h) (Or.inl ⟨by rfl, ?_⟩) ?_ ?_
           rotate_left
           ·intro w'
            go_simp
            with_reducible rfl
           rotate_left
           ·simp only [Act.put, List.setIfInBounds_toArray, List.set_cons_zero, List.set_cons_succ, i64_w, i32_w]
            rfl
           refine pure_ (i := 4) (N := some 52) (v := ?_) (a' := ?_) #[true, false, true, false, true, false, false, false, false] rfl rfl (any_of HT_.out (by kernel_rfl)) (fun _ _ _ h => h) (Or.inl ⟨by rfl, ?_⟩) ?_ ?_
           rotate_left
           ·intro w'
            go_simp
            with_reducible rfl
           rotate_left
           ·simp only [Act.put, List.setIfInBounds_toArray, List.set_cons_zero, List.set_cons_succ, i64_w, i32_w]
            rfl
           refine take_ (i := 1) (N := some 49) (v := ?_) (a' := ?_) #[true, true, true, false, true, false, false, false, false] rfl rfl (take_ofW HT_.out HW_.out (by kernel_rfl)) (fun _ _ _ h => h) (Or.inl ⟨by rfl, ?_⟩) hHeld ?_ ?_
           rotate_left
           ·rintro w' ⟨s0, s1⟩
            go_simp
            with_reducible rfl
           rotate_left
           ·simp only [Act.put, List.setIfInBounds_toArray, List.set_cons_zero, List.set_cons_succ, i64_w, i32_w]
            rfl
           refine pure_ (i := 3) (N := some 51) (v := ?_) (a' := ?_) #[true, true, true, true, true, false, false, false, false] rfl rfl (any_of HT_.out (by kernel_rfl)) (fun _ _ _ h => h) (Or.inl ⟨by rfl, ?_⟩) ?_ ?_
           rotate_left
           ·intro w'
            go_simp
            with_reducible rfl
           rotate_left
           ·simp only [Act.put, List.setIfInBounds_toArray, List.set_cons_zero, List.set_cons_succ, i64_w, i32_w]
            rfl
           refine take_ (i := 5) (N := some 53) (v := ?_) (a' := ?_) #[true, true, true, true, true, true, false, false, false] rfl rfl (take_ofW HT_.out HW_.out (by kernel_rfl)) (fun _ _ _ h => h) (Or.inl ⟨by rfl, ?_⟩) hHeld ?_ ?_
           rotate_left
           ·rintro w' ⟨s0, s1⟩
            go_simp
            with_reducible rfl
           rotate_left
           ·simp only [Act.put, List.setIfInBounds_toArray, List.set_cons_zero, List.set_cons_succ, i64_w, i32_w]
            rfl
           refine pure_ (i := 6) (N := some 54) (v := ?_) (a' := ?_) #[true, true, true, true, true, true, true, false, false] rfl rfl (any_of HT_.out (by kernel_rfl)) (fun _ _ _ h => h) (Or.inl ⟨by rfl, ?_⟩) ?_ ?_
           rotate_left
           ·intro w'
            go_simp
            with_reducible rfl
           rotate_left
           ·simp only [Act.put, List.setIfInBounds_toArray, List.set_cons_zero, List.set_cons_succ, i64_w, i32_w]
            rfl
           refine one_ (i := 7) (N := some 11) #[true, true, true, true, true, true, true, true, false] rfl rfl (one_of HT_.out (by kernel_rfl)) (by decide) (fun K hK => ?_)
           refine box_step ?hg (N := 11) ?hd (cs := #[.string (⟨#[]⟩ : ByteArray), .int .i64 0]) (t := 28) ?hr ?_; (case hd => rfl); (case hg => rfl); (case hr => first | (go_simp; done) | (go_simp; rfl))
           intro gb566 hg w35 hbox hb
           have BK566 := Aside0.mk (hbox)
           have GW566 := Aside0.mk ((by rw [hg]; exact (below_size bz) : w.heap.size ≤ gb566))
           have GE566 := Aside0.mk ((by rw [hg]; exact (below_size bz) : w.heap.size ≤ gb566))
           have NB561_566 := Aside0.mk ((by rw [hg]; exact Nat.ne_of_lt (blk_lt (g := gb561) (o := .cells #[.string t558, .int .i64 t559] 28 (0, 0)) bk) : gb561 ≠ gb566))
           have NB566_561 := Aside0.mk ((by rw [hg]; exact Nat.ne_of_gt (blk_lt (g := gb561) (o := .cells #[.string t558, .int .i64 t559] 28 (0, 0)) bk) : gb566 ≠ gb561))
           have NB564_566 := Aside0.mk ((by rw [hg]; exact Nat.ne_of_lt (blk_lt (g := gb564) (o := .cells #[.string t562, .int .i64 t563] 28 (0, 0)) bk) : gb564 ≠ gb566))
           have NB566_564 := Aside0.mk ((by rw [hg]; exact Nat.ne_of_gt (blk_lt (g := gb564) (o := .cells #[.string t562, .int .i64 t563] 28 (0, 0)) bk) : gb566 ≠ gb564))
           replace BK561 := Aside0.mk (blk_below (g := gb561) (o := .cells #[.string t558, .int .i64 t559] 28 (0, 0)) bk hb)
           replace BK564 := Aside0.mk (blk_below (g := gb564) (o := .cells #[.string t562, .int .i64 t563] 28 (0, 0)) bk hb)
           replace HB := Aside0.mk (below_step bz hb)
           clear hb hbox hg
           refine hK.out _ _ ⟨(blk_cell BK564.out 0).trans rfl, (blk_cell BK564.out 1).trans rfl⟩ (fun hHeld => ?_)
           clear hK K
           refine norm_ (a' := ?_) ?_ ?_
           rotate_left
           ·show Act.put _ (some 11) _ = _
            simp only [Act.put, List.setIfInBounds_toArray, List.set_cons_zero, List.set_cons_succ, i64_w, i32_w]
            rfl
           refine one_ (i := 8) (N := none) #[true, true, true, true, true, true, true, true, true] rfl rfl (one_of HT_.out (by kernel_rfl)) (by decide) (fun K hK => ?_)
           have hs36 : w35.cell? ⟨gb566, 0, none⟩ = some (.string (⟨#[]⟩ : ByteArray)) := (blk_cell BK566.out 0).trans rfl
           have hfs36 := blk_frozen BK566.out 0
           have hns36_0 := NB561_566.out
           have hns36_1 := NB564_566.out
           have hms36_0 := NB566_561.out
           have hms36_1 := NB566_564.out
           have hs37 : w35.cell? ⟨gb566, 1, none⟩ = some (.int .i64 0) := (blk_cell BK566.out 1).trans rfl
           have hfs37 := blk_frozen BK566.out 1
           have hns37_0 := NB561_566.out
           have hns37_1 := NB564_566.out
           have hms37_0 := NB566_561.out
           have hms37_1 := NB566_564.out
           refine skip_ (w1 := ?_) (by rfl) rfl ?_ ?_
           rotate_left
           ·go_simp
            rfl
           refine hK.out _ _ ⟨((cell_far (p := ⟨gb566, _, none⟩) NB564_566.out _).trans (((cell_far (p := ⟨gb566, _, none⟩) NB564_566.out _).trans (hHeld.1)))), ((cell_far (p := ⟨gb566, _, none⟩) NB564_566.out _).trans (((cell_far (p := ⟨gb566, _, none⟩) NB564_566.out _).trans (hHeld.2))))⟩ (fun hHeld => ?_)
           clear hK K
           refine done_ (done_of HT_.out (by kernel_rfl)) ?_
           have hnb38 := NB566_561.out
           have hnc38 := NB561_566.out
           have hnb39 := NB566_564.out
           have hnc39 := NB564_566.out
           obtain ⟨hcz40_0, hcz40_1, hfz40_0, hfz40_1⟩ := cz2 (W := w35) BK566
           have hnb41 := NB564_561.out
           have hnc41 := NB561_564.out
           obtain ⟨hcz42_0, hcz42_1, hfz42_0, hfz42_1⟩ := cz2 (W := w35) BK564
           try go_wp2_with (first | ((with_reducible refine gate_callee (f := 23) rfl ?_); refine goesL_ (some 63) rfl rfl Tryd.func23 (by kernel_rfl) rfl #[.agg #[.string (t562.extract 0 ((ji24) : Int).toNat), .int .i64 t563], .agg #[.string (⟨#[49]⟩ : ByteArray), .int .i64 (wrap64 ((wrap64 (t563 - (ji24))) + 1))]] rfl (by (try simp only [List.map_toArray, List.map_cons, List.map_nil]); first | done | (simp only [hji24]; rfl) | rfl | (simp only [List.length_drop, List.length_take]; rfl)) ?_; (with_reducible refine (bigdec_Add.calls kj11 (t562.extract 0 ((ji24) : Int).toNat) t563 (⟨#[49]⟩ : ByteArray) (wrap64 ((wrap64 (t563 - (ji24))) + 1)) t567 t568 t569 _ A27.out).mono ?_); rintro e w43 ⟨rfl, hb⟩; refine ⟨_, rfl, ?_⟩; replace BK561 := kN (g := gb561) (cs := #[.string t558, .int .i64 t559]) hb bk; replace BK564 := kN (g := gb564) (cs := #[.string t562, .int .i64 t563]) hb bk; replace BK566 := kN (g := gb566) (cs := #[.string (t562.extract 0 ((ji24) : Int).toNat), .int .i64 t563]) hb bk; replace HB := bN bz hb; (try clear hb); (try clear hb2); (try clear hk); (try clear hi)) | ((with_reducible refine gate_dst (N := 12) rfl ?_); (try (refine gate_guard (by rfl) ?_; dsimp only)); refine box_event rfl (N := 12) rfl (cs := #[.string (⟨#[]⟩ : ByteArray), .int .i64 0]) (t := 28) gz ?_; intro gb570 hg w44 hbox hb; have GW570 := gN bz hg; have GE570 := gN bz hg; have NB561_570 := lN (g := gb561) (cs := #[.string t558, .int .i64 t559]) hg bk; have NB570_561 := rN (g := gb561) (cs := #[.string t558, .int .i64 t559]) hg bk; have NB564_570 := lN (g := gb564) (cs := #[.string t562, .int .i64 t563]) hg bk; have NB570_564 := rN (g := gb564) (cs := #[.string t562, .int .i64 t563]) hg bk; have NB566_570 := lN (g := gb566) (cs := #[.string (t562.extract 0 ((ji24) : Int).toNat), .int .i64 t563]) hg bk; have NB570_566 := rN (g := gb566) (cs := #[.string (t562.extract 0 ((ji24) : Int).toNat), .int .i64 t563]) hg bk; replace BK561 := kN (g := gb561) (cs := #[.string t558, .int .i64 t559]) hb bk; replace BK564 := kN (g := gb564) (cs := #[.string t562, .int .i64 t563]) hb bk; replace BK566 := kN (g := gb566) (cs := #[.string (t562.extract 0 ((ji24) : Int).toNat), .int .i64 t563]) hb bk; have BK570 := Aside0.mk hbox; replace HB := bN bz hb; clear hb hbox hg; have hnb45 := NB570_561.out; have hnc45 := NB561_570.out; have hnb46 := NB570_564.out; have hnc46 := NB564_570.out; have hnb47 := NB570_566.out; have hnc47 := NB566_570.out; obtain ⟨hcz48_0, hcz48_1, hfz48_0, hfz48_1⟩ := cz2 (W := w44) BK570; obtain ⟨hcz49_0, hcz49_1, hfz49_0, hfz49_1⟩ := cz2 (W := w44) BK566) | ((with_reducible refine gate_callee (f := 16) rfl ?_); refine goesL_ (some 69) rfl rfl Tryd.func16 (by kernel_rfl) rfl #[.agg #[.string (t562.extract 0 ((ji24) : Int).toNat), .int .i64 t563], .int .i64 t557] rfl (by (try simp only [List.map_toArray, List.map_cons, List.map_nil]); first | done | (simp only [hji24]; rfl) | rfl | (simp only [List.length_drop, List.length_take]; rfl)) ?_; (with_reducible refine (short_Read.calls kj11 (t562.extract 0 ((ji24) : Int).toNat) t563 t557 t571 t572 _ A28.out).mono ?_); rintro e w50 ⟨rfl, hb⟩; refine ⟨_, rfl, ?_⟩; replace BK561 := kN (g := gb561) (cs := #[.string t558, .int .i64 t559]) hb bk; replace BK564 := kN (g := gb564) (cs := #[.string t562, .int .i64 t563]) hb bk; replace BK566 := kN (g := gb566) (cs := #[.string (t562.extract 0 ((ji24) : Int).toNat), .int .i64 t563]) hb bk; replace BK570 := kN (g := gb570) (cs := #[.string t567, .int .i64 t568]) hb bk; replace HB := bN bz hb; (try clear hb); (try clear hb2); (try clear hk); (try clear hi); obtain ⟨hcz51_0, hcz51_1, hfz51_0, hfz51_1⟩ := cz2 (W := w50) BK570) | ((with_reducible refine gate_callee (f := 16) rfl ?_); refine goesL_ (some 75) rfl rfl Tryd.func16 (by kernel_rfl) rfl #[.agg #[.string t567, .int .i64 t568], .int .i64 t557] rfl lz ?_; (with_reducible refine (short_Read.calls kj11 t567 t568 t557 t573 t574 _ A29.out).mono ?_); rintro e w52 ⟨rfl, hb⟩; refine ⟨_, rfl, ?_⟩; replace BK561 := kN (g := gb561) (cs := #[.string t558, .int .i64 t559]) hb bk; replace BK564 := kN (g := gb564) (cs := #[.string t562, .int .i64 t563]) hb bk; replace BK566 := kN (g := gb566) (cs := #[.string (t562.extract 0 ((ji24) : Int).toNat), .int .i64 t563]) hb bk; replace BK570 := kN (g := gb570) (cs := #[.string t567, .int .i64 t568]) hb bk; replace HB := bN bz hb; (try clear hb); (try clear hb2); (try clear hk); (try clear hi)))
           go_ret
           exact ⟨by first | rfl | (simp [errW_none, errW_some] <;> rfl) | (simp only [← hji24]; first | rfl | (simp [errW_none, errW_some] <;> rfl)) | (simp [*, errW_none, errW_some] <;> rfl), bz⟩
          ·rw [if_neg c33] at H
           obtain ⟨c33b0, c33b1⟩ := eF c33
           by_cases c53 : t573 = t556
           ·rw [if_pos c53] at H
            obtain ⟨c53b0, c53b1⟩ := eT c53
            clear c53
            obtain rfl := Option.some.inj H
            try go_wp2
            replace BK561 := Aside0.mk (blk_drew BK561.out)
            replace BK564 := Aside0.mk (blk_drew BK564.out)
            replace HB := Aside0.mk (below_drew1 HB.out)
            refine start_ (n := 9) (S := fun w' => w'.cell? ⟨gb564, 0, none⟩ = some (.string t562) ∧ w'.cell? ⟨gb564, 1, none⟩ = some (.int .i64 t563)) (ds := []) #[false, false, false, false, false, false, false, false, false] (by kernel_rfl) rfl rfl ⟨(blk_cell BK564.out 0).trans rfl, (blk_cell BK564.out 1).trans rfl⟩ (fun hHeld => ?_); refine with_tabW platenlaw05_ShortLeast.tab9 platenlaw05_ShortLeast.bits9 (fun HT_ HW_ => ?_)
            generalize wc.drew = w54 at BK561 BK564 HB hHeld ⊢
            refine pure_ (i := 0) (N := some 48) (v := ?_) (a' := ?_) #[true, false, false, false, false, false, false, false, false] rfl rfl (any_of HT_.out (by kernel_rfl)) (fun _ _ _ h => h) (Or.inl ⟨by rfl, ?_⟩) ?_ ?_
            rotate_left
            ·intro w'
             go_simp
             with_reducible rfl
            rotate_left
            ·simp only [Act.put, List.setIfInBounds_toArray, List.set_cons_zero, List.set_cons_succ, i64_w, i32_w]
             rfl
            refine pure_ (i := 2) (N := some 50) (v := ?_) (a' := ?_) #[true, false, true, false, false, false, false, false, false] rfl rfl (any_of HT_.out (by kernel_rfl)) (fun _ _ _ h => h) (Or.inl ⟨by rfl, ?_⟩) ?_ ?_
            rotate_left
            ·intro w'
             go_simp
             with_reducible rfl
            rotate_left
            ·simp only [Act.put, List.setIfInBounds_toArray, List.set_cons_zero, List.set_cons_succ, i64_w, i32_w]
             rfl
            refine pure_ (i := 4) (N := some 52) (v := ?_) (a' := ?_) #[true, false, true, false, true, false, false, false, false] rfl rfl (any_of HT_.out (by kernel_rfl)) (fun _ _ _ h => h) (Or.inl ⟨by rfl, ?_⟩) ?_ ?_
            rotate_left
            ·intro w'
             go_simp
             with_reducible rfl
            rotate_left
            ·simp only [Act.put, List.setIfInBounds_toArray, List.set_cons_zero, List.set_cons_succ, i64_w, i32_w]
             rfl
            refine take_ (i := 1) (N := some 49) (v := ?_) (a' := ?_) #[true, true, true, false, true, false, false, false, false] rfl rfl (take_ofW HT_.out HW_.out (by kernel_rfl)) (fun _ _ _ h => h) (Or.inl ⟨by rfl, ?_⟩) hHeld ?_ ?_
            rotate_left
            ·rintro w' ⟨s0, s1⟩
             go_simp
             with_reducible rfl
            rotate_left
            ·simp only [Act.put, List.setIfInBounds_toArray, List.set_cons_zero, List.set_cons_succ, i64_w, i32_w]
             rfl
            refine pure_ (i := 3) (N := some 51) (v := ?_) (a' := ?_) #[true, true, true, true, true, false, false, false, false] rfl rfl (any_of HT_.out (by kernel_rfl)) (fun _ _ _ h => h) (Or.inl ⟨by rfl, ?_⟩) ?_ ?_
            rotate_left
            ·intro w'
             go_simp
             with_reducible rfl
            rotate_left
            ·simp only [Act.put, List.setIfInBounds_toArray, List.set_cons_zero, List.set_cons_succ, i64_w, i32_w]
             rfl
            refine take_ (i := 5) (N := some 53) (v := ?_) (a' := ?_) #[true, true, true, true, true, true, false, false, false] rfl rfl (take_ofW HT_.out HW_.out (by kernel_rfl)) (fun _ _ _ h => h) (Or.inl ⟨by rfl, ?_⟩) hHeld ?_ ?_
            rotate_left
            ·rintro w' ⟨s0, s1⟩
             go_simp
             with_reducible rfl
            rotate_left
            ·simp only [Act.put, List.setIfInBounds_toArray, List.set_cons_zero, List.set_cons_succ, i64_w, i32_w]
             rfl
            refine pure_ (i := 6) (N := some 54) (v := ?_) (a' := ?_) #[true, true, true, true, true, true, true, false, false] rfl rfl (any_of HT_.out (by kernel_rfl)) (fun _ _ _ h => h) (Or.inl ⟨by rfl, ?_⟩) ?_ ?_
            rotate_left
            ·intro w'
             go_simp
             with_reducible rfl
            rotate_left
            ·simp only [Act.put, List.setIfInBounds_toArray, List.set_cons_zero, List.set_cons_succ, i64_w, i32_w]
             rfl
            refine one_ (i := 7) (N := some 11) #[true, true, true, true, true, true, true, true, false] rfl rfl (one_of HT_.out (by kernel_rfl)) (by decide) (fun K hK => ?_)
            refine box_step ?hg (N := 11) ?hd (cs := #[.string (⟨#[]⟩ : ByteArray), .int .i64 0]) (t := 28) ?hr ?_; (case hd => rfl); (case hg => rfl); (case hr => first | (go_simp; done) | (go_simp; rfl))
            intro gb566 hg w55 hbox hb
            have BK566 := Aside0.mk (hbox)
            have GW566 := Aside0.mk ((by rw [hg]; exact (below_size bz) : w.heap.size ≤ gb566))
            have GE566 := Aside0.mk ((by rw [hg]; exact (below_size bz) : w.heap.size ≤ gb566))
            have NB561_566 := Aside0.mk ((by rw [hg]; exact Nat.ne_of_lt (blk_lt (g := gb561) (o := .cells #[.string t558, .int .i64 t559] 28 (0, 0)) bk) : gb561 ≠ gb566))
            have NB566_561 := Aside0.mk ((by rw [hg]; exact Nat.ne_of_gt (blk_lt (g := gb561) (o := .cells #[.string t558, .int .i64 t559] 28 (0, 0)) bk) : gb566 ≠ gb561))
            have NB564_566 := Aside0.mk ((by rw [hg]; exact Nat.ne_of_lt (blk_lt (g := gb564) (o := .cells #[.string t562, .int .i64 t563] 28 (0, 0)) bk) : gb564 ≠ gb566))
            have NB566_564 := Aside0.mk ((by rw [hg]; exact Nat.ne_of_gt (blk_lt (g := gb564) (o := .cells #[.string t562, .int .i64 t563] 28 (0, 0)) bk) : gb566 ≠ gb564))
            replace BK561 := Aside0.mk (blk_below (g := gb561) (o := .cells #[.string t558, .int .i64 t559] 28 (0, 0)) bk hb)
            replace BK564 := Aside0.mk (blk_below (g := gb564) (o := .cells #[.string t562, .int .i64 t563] 28 (0, 0)) bk hb)
            replace HB := Aside0.mk (below_step bz hb)
            clear hb hbox hg
            refine hK.out _ _ ⟨(blk_cell BK564.out 0).trans rfl, (blk_cell BK564.out 1).trans rfl⟩ (fun hHeld => ?_)
            clear hK K
            refine norm_ (a' := ?_) ?_ ?_
            rotate_left
            ·show Act.put _ (some 11) _ = _
             simp only [Act.put, List.setIfInBounds_toArray, List.set_cons_zero, List.set_cons_succ, i64_w, i32_w]
             rfl
            refine one_ (i := 8) (N := none) #[true, true, true, true, true, true, true, true, true] rfl rfl (one_of HT_.out (by kernel_rfl)) (by decide) (fun K hK => ?_)
            have hs56 : w55.cell? ⟨gb566, 0, none⟩ = some (.string (⟨#[]⟩ : ByteArray)) := (blk_cell BK566.out 0).trans rfl
            have hfs56 := blk_frozen BK566.out 0
            have hns56_0 := NB561_566.out
            have hns56_1 := NB564_566.out
            have hms56_0 := NB566_561.out
            have hms56_1 := NB566_564.out
            have hs57 : w55.cell? ⟨gb566, 1, none⟩ = some (.int .i64 0) := (blk_cell BK566.out 1).trans rfl
            have hfs57 := blk_frozen BK566.out 1
            have hns57_0 := NB561_566.out
            have hns57_1 := NB564_566.out
            have hms57_0 := NB566_561.out
            have hms57_1 := NB566_564.out
            refine skip_ (w1 := ?_) (by rfl) rfl ?_ ?_
            rotate_left
            ·go_simp
             rfl
            refine hK.out _ _ ⟨((cell_far (p := ⟨gb566, _, none⟩) NB564_566.out _).trans (((cell_far (p := ⟨gb566, _, none⟩) NB564_566.out _).trans (hHeld.1)))), ((cell_far (p := ⟨gb566, _, none⟩) NB564_566.out _).trans (((cell_far (p := ⟨gb566, _, none⟩) NB564_566.out _).trans (hHeld.2))))⟩ (fun hHeld => ?_)
            clear hK K
            refine done_ (done_of HT_.out (by kernel_rfl)) ?_
            have hnb58 := NB566_561.out
            have hnc58 := NB561_566.out
            have hnb59 := NB566_564.out
            have hnc59 := NB564_566.out
            obtain ⟨hcz60_0, hcz60_1, hfz60_0, hfz60_1⟩ := cz2 (W := w55) BK566
            have hnb61 := NB564_561.out
            have hnc61 := NB561_564.out
            obtain ⟨hcz62_0, hcz62_1, hfz62_0, hfz62_1⟩ := cz2 (W := w55) BK564
            try go_wp2_with (first | ((with_reducible refine gate_callee (f := 23) rfl ?_); refine goesL_ (some 63) rfl rfl Tryd.func23 (by kernel_rfl) rfl #[.agg #[.string (t562.extract 0 ((ji24) : Int).toNat), .int .i64 t563], .agg #[.string (⟨#[49]⟩ : ByteArray), .int .i64 (wrap64 ((wrap64 (t563 - (ji24))) + 1))]] rfl (by (try simp only [List.map_toArray, List.map_cons, List.map_nil]); first | done | (simp only [hji24]; rfl) | rfl | (simp only [List.length_drop, List.length_take]; rfl)) ?_; (with_reducible refine (bigdec_Add.calls kj11 (t562.extract 0 ((ji24) : Int).toNat) t563 (⟨#[49]⟩ : ByteArray) (wrap64 ((wrap64 (t563 - (ji24))) + 1)) t567 t568 t569 _ A27.out).mono ?_); rintro e w63 ⟨rfl, hb⟩; refine ⟨_, rfl, ?_⟩; replace BK561 := kN (g := gb561) (cs := #[.string t558, .int .i64 t559]) hb bk; replace BK564 := kN (g := gb564) (cs := #[.string t562, .int .i64 t563]) hb bk; replace BK566 := kN (g := gb566) (cs := #[.string (t562.extract 0 ((ji24) : Int).toNat), .int .i64 t563]) hb bk; replace HB := bN bz hb; (try clear hb); (try clear hb2); (try clear hk); (try clear hi)) | ((with_reducible refine gate_dst (N := 12) rfl ?_); (try (refine gate_guard (by rfl) ?_; dsimp only)); refine box_event rfl (N := 12) rfl (cs := #[.string (⟨#[]⟩ : ByteArray), .int .i64 0]) (t := 28) gz ?_; intro gb570 hg w64 hbox hb; have GW570 := gN bz hg; have GE570 := gN bz hg; have NB561_570 := lN (g := gb561) (cs := #[.string t558, .int .i64 t559]) hg bk; have NB570_561 := rN (g := gb561) (cs := #[.string t558, .int .i64 t559]) hg bk; have NB564_570 := lN (g := gb564) (cs := #[.string t562, .int .i64 t563]) hg bk; have NB570_564 := rN (g := gb564) (cs := #[.string t562, .int .i64 t563]) hg bk; have NB566_570 := lN (g := gb566) (cs := #[.string (t562.extract 0 ((ji24) : Int).toNat), .int .i64 t563]) hg bk; have NB570_566 := rN (g := gb566) (cs := #[.string (t562.extract 0 ((ji24) : Int).toNat), .int .i64 t563]) hg bk; replace BK561 := kN (g := gb561) (cs := #[.string t558, .int .i64 t559]) hb bk; replace BK564 := kN (g := gb564) (cs := #[.string t562, .int .i64 t563]) hb bk; replace BK566 := kN (g := gb566) (cs := #[.string (t562.extract 0 ((ji24) : Int).toNat), .int .i64 t563]) hb bk; have BK570 := Aside0.mk hbox; replace HB := bN bz hb; clear hb hbox hg; have hnb65 := NB570_561.out; have hnc65 := NB561_570.out; have hnb66 := NB570_564.out; have hnc66 := NB564_570.out; have hnb67 := NB570_566.out; have hnc67 := NB566_570.out; obtain ⟨hcz68_0, hcz68_1, hfz68_0, hfz68_1⟩ := cz2 (W := w64) BK570; obtain ⟨hcz69_0, hcz69_1, hfz69_0, hfz69_1⟩ := cz2 (W := w64) BK566) | ((with_reducible refine gate_callee (f := 16) rfl ?_); refine goesL_ (some 69) rfl rfl Tryd.func16 (by kernel_rfl) rfl #[.agg #[.string (t562.extract 0 ((ji24) : Int).toNat), .int .i64 t563], .int .i64 t557] rfl (by (try simp only [List.map_toArray, List.map_cons, List.map_nil]); first | done | (simp only [hji24]; rfl) | rfl | (simp only [List.length_drop, List.length_take]; rfl)) ?_; (with_reducible refine (short_Read.calls kj11 (t562.extract 0 ((ji24) : Int).toNat) t563 t557 t571 t572 _ A28.out).mono ?_); rintro e w70 ⟨rfl, hb⟩; refine ⟨_, rfl, ?_⟩; replace BK561 := kN (g := gb561) (cs := #[.string t558, .int .i64 t559]) hb bk; replace BK564 := kN (g := gb564) (cs := #[.string t562, .int .i64 t563]) hb bk; replace BK566 := kN (g := gb566) (cs := #[.string (t562.extract 0 ((ji24) : Int).toNat), .int .i64 t563]) hb bk; replace BK570 := kN (g := gb570) (cs := #[.string t567, .int .i64 t568]) hb bk; replace HB := bN bz hb; (try clear hb); (try clear hb2); (try clear hk); (try clear hi); obtain ⟨hcz71_0, hcz71_1, hfz71_0, hfz71_1⟩ := cz2 (W := w70) BK570) | ((with_reducible refine gate_callee (f := 16) rfl ?_); refine goesL_ (some 75) rfl rfl Tryd.func16 (by kernel_rfl) rfl #[.agg #[.string t567, .int .i64 t568], .int .i64 t557] rfl lz ?_; (with_reducible refine (short_Read.calls kj11 t567 t568 t557 t573 t574 _ A29.out).mono ?_); rintro e w72 ⟨rfl, hb⟩; refine ⟨_, rfl, ?_⟩; replace BK561 := kN (g := gb561) (cs := #[.string t558, .int .i64 t559]) hb bk; replace BK564 := kN (g := gb564) (cs := #[.string t562, .int .i64 t563]) hb bk; replace BK566 := kN (g := gb566) (cs := #[.string (t562.extract 0 ((ji24) : Int).toNat), .int .i64 t563]) hb bk; replace BK570 := kN (g := gb570) (cs := #[.string t567, .int .i64 t568]) hb bk; replace HB := bN bz hb; (try clear hb); (try clear hb2); (try clear hk); (try clear hi)))
            go_ret
            exact ⟨by first | rfl | (simp [errW_none, errW_some] <;> rfl) | (simp only [← hji24]; first | rfl | (simp [errW_none, errW_some] <;> rfl)) | (simp [*, errW_none, errW_some] <;> rfl), bz⟩
           ·rw [if_neg c53] at H
            obtain ⟨c53b0, c53b1⟩ := eF c53
            replace H := bs H
            obtain ⟨t575, A73, H⟩ := H
            obtain rfl := Option.some.inj H
            try go_wp2
            replace BK561 := Aside0.mk (blk_drew BK561.out)
            replace BK564 := Aside0.mk (blk_drew BK564.out)
            replace HB := Aside0.mk (below_drew1 HB.out)
            refine start_ (n := 9) (S := fun w' => w'.cell? ⟨gb564, 0, none⟩ = some (.string t562) ∧ w'.cell? ⟨gb564, 1, none⟩ = some (.int .i64 t563)) (ds := []) #[false, false, false, false, false, false, false, false, false] (by kernel_rfl) rfl rfl ⟨(blk_cell BK564.out 0).trans rfl, (blk_cell BK564.out 1).trans rfl⟩ (fun hHeld => ?_); refine with_tabW platenlaw05_ShortLeast.tab9 platenlaw05_ShortLeast.bits9 (fun HT_ HW_ => ?_)
            generalize wc.drew = w74 at BK561 BK564 HB hHeld ⊢
            refine pure_ (i := 0) (N := some 48) (v := ?_) (a' := ?_) #[true, false, false, false, false, false, false, false, false] rfl rfl (any_of HT_.out (by kernel_rfl)) (fun _ _ _ h => h) (Or.inl ⟨by rfl, ?_⟩) ?_ ?_
            rotate_left
            ·intro w'
             go_simp
             with_reducible rfl
            rotate_left
            ·simp only [Act.put, List.setIfInBounds_toArray, List.set_cons_zero, List.set_cons_succ, i64_w, i32_w]
             rfl
            refine pure_ (i := 2) (N := some 50) (v := ?_) (a' := ?_) #[true, false, true, false, false, false, false, false, false] rfl rfl (any_of HT_.out (by kernel_rfl)) (fun _ _ _ h => h) (Or.inl ⟨by rfl, ?_⟩) ?_ ?_
            rotate_left
            ·intro w'
             go_simp
             with_reducible rfl
            rotate_left
            ·simp only [Act.put, List.setIfInBounds_toArray, List.set_cons_zero, List.set_cons_succ, i64_w, i32_w]
             rfl
            refine pure_ (i := 4) (N := some 52) (v := ?_) (a' := ?_) #[true, false, true, false, true, false, false, false, false] rfl rfl (any_of HT_.out (by kernel_rfl)) (fun _ _ _ h => h) (Or.inl ⟨by rfl, ?_⟩) ?_ ?_
            rotate_left
            ·intro w'
             go_simp
             with_reducible rfl
            rotate_left
            ·simp only [Act.put, List.setIfInBounds_toArray, List.set_cons_zero, List.set_cons_succ, i64_w, i32_w]
             rfl
            refine take_ (i := 1) (N := some 49) (v := ?_) (a' := ?_) #[true, true, true, false, true, false, false, false, false] rfl rfl (take_ofW HT_.out HW_.out (by kernel_rfl)) (fun _ _ _ h => h) (Or.inl ⟨by rfl, ?_⟩) hHeld ?_ ?_
            rotate_left
            ·rintro w' ⟨s0, s1⟩
             go_simp
             with_reducible rfl
            rotate_left
            ·simp only [Act.put, List.setIfInBounds_toArray, List.set_cons_zero, List.set_cons_succ, i64_w, i32_w]
             rfl
            refine pure_ (i := 3) (N := some 51) (v := ?_) (a' := ?_) #[true, true, true, true, true, false, false, false, false] rfl rfl (any_of HT_.out (by kernel_rfl)) (fun _ _ _ h => h) (Or.inl ⟨by rfl, ?_⟩) ?_ ?_
            rotate_left
            ·intro w'
             go_simp
             with_reducible rfl
            rotate_left
            ·simp only [Act.put, List.setIfInBounds_toArray, List.set_cons_zero, List.set_cons_succ, i64_w, i32_w]
             rfl
            refine take_ (i := 5) (N := some 53) (v := ?_) (a' := ?_) #[true, true, true, true, true, true, false, false, false] rfl rfl (take_ofW HT_.out HW_.out (by kernel_rfl)) (fun _ _ _ h => h) (Or.inl ⟨by rfl, ?_⟩) hHeld ?_ ?_
            rotate_left
            ·rintro w' ⟨s0, s1⟩
             go_simp
             with_reducible rfl
            rotate_left
            ·simp only [Act.put, List.setIfInBounds_toArray, List.set_cons_zero, List.set_cons_succ, i64_w, i32_w]
             rfl
            refine pure_ (i := 6) (N := some 54) (v := ?_) (a' := ?_) #[true, true, true, true, true, true, true, false, false] rfl rfl (any_of HT_.out (by kernel_rfl)) (fun _ _ _ h => h) (Or.inl ⟨by rfl, ?_⟩) ?_ ?_
            rotate_left
            ·intro w'
             go_simp
             with_reducible rfl
            rotate_left
            ·simp only [Act.put, List.setIfInBounds_toArray, List.set_cons_zero, List.set_cons_succ, i64_w, i32_w]
             rfl
            refine one_ (i := 7) (N := some 11) #[true, true, true, true, true, true, true, true, false] rfl rfl (one_of HT_.out (by kernel_rfl)) (by decide) (fun K hK => ?_)
            refine box_step ?hg (N := 11) ?hd (cs := #[.string (⟨#[]⟩ : ByteArray), .int .i64 0]) (t := 28) ?hr ?_; (case hd => rfl); (case hg => rfl); (case hr => first | (go_simp; done) | (go_simp; rfl))
            intro gb566 hg w75 hbox hb
            have BK566 := Aside0.mk (hbox)
            have GW566 := Aside0.mk ((by rw [hg]; exact (below_size bz) : w.heap.size ≤ gb566))
            have GE566 := Aside0.mk ((by rw [hg]; exact (below_size bz) : w.heap.size ≤ gb566))
            have NB561_566 := Aside0.mk ((by rw [hg]; exact Nat.ne_of_lt (blk_lt (g := gb561) (o := .cells #[.string t558, .int .i64 t559] 28 (0, 0)) bk) : gb561 ≠ gb566))
            have NB566_561 := Aside0.mk ((by rw [hg]; exact Nat.ne_of_gt (blk_lt (g := gb561) (o := .cells #[.string t558, .int .i64 t559] 28 (0, 0)) bk) : gb566 ≠ gb561))
            have NB564_566 := Aside0.mk ((by rw [hg]; exact Nat.ne_of_lt (blk_lt (g := gb564) (o := .cells #[.string t562, .int .i64 t563] 28 (0, 0)) bk) : gb564 ≠ gb566))
            have NB566_564 := Aside0.mk ((by rw [hg]; exact Nat.ne_of_gt (blk_lt (g := gb564) (o := .cells #[.string t562, .int .i64 t563] 28 (0, 0)) bk) : gb566 ≠ gb564))
            replace BK561 := Aside0.mk (blk_below (g := gb561) (o := .cells #[.string t558, .int .i64 t559] 28 (0, 0)) bk hb)
            replace BK564 := Aside0.mk (blk_below (g := gb564) (o := .cells #[.string t562, .int .i64 t563] 28 (0, 0)) bk hb)
            replace HB := Aside0.mk (below_step bz hb)
            clear hb hbox hg
            refine hK.out _ _ ⟨(blk_cell BK564.out 0).trans rfl, (blk_cell BK564.out 1).trans rfl⟩ (fun hHeld => ?_)
            clear hK K
            refine norm_ (a' := ?_) ?_ ?_
            rotate_left
            ·show Act.put _ (some 11) _ = _
             simp only [Act.put, List.setIfInBounds_toArray, List.set_cons_zero, List.set_cons_succ, i64_w, i32_w]
             rfl
            refine one_ (i := 8) (N := none) #[true, true, true, true, true, true, true, true, true] rfl rfl (one_of HT_.out (by kernel_rfl)) (by decide) (fun K hK => ?_)
            have hs76 : w75.cell? ⟨gb566, 0, none⟩ = some (.string (⟨#[]⟩ : ByteArray)) := (blk_cell BK566.out 0).trans rfl
            have hfs76 := blk_frozen BK566.out 0
            have hns76_0 := NB561_566.out
            have hns76_1 := NB564_566.out
            have hms76_0 := NB566_561.out
            have hms76_1 := NB566_564.out
            have hs77 : w75.cell? ⟨gb566, 1, none⟩ = some (.int .i64 0) := (blk_cell BK566.out 1).trans rfl
            have hfs77 := blk_frozen BK566.out 1
            have hns77_0 := NB561_566.out
            have hns77_1 := NB564_566.out
            have hms77_0 := NB566_561.out
            have hms77_1 := NB566_564.out
            refine skip_ (w1 := ?_) (by rfl) rfl ?_ ?_
            rotate_left
            ·go_simp
             rfl
            refine hK.out _ _ ⟨((cell_far (p := ⟨gb566, _, none⟩) NB564_566.out _).trans (((cell_far (p := ⟨gb566, _, none⟩) NB564_566.out _).trans (hHeld.1)))), ((cell_far (p := ⟨gb566, _, none⟩) NB564_566.out _).trans (((cell_far (p := ⟨gb566, _, none⟩) NB564_566.out _).trans (hHeld.2))))⟩ (fun hHeld => ?_)
            clear hK K
            refine done_ (done_of HT_.out (by kernel_rfl)) ?_
            have hnb78 := NB566_561.out
            have hnc78 := NB561_566.out
            have hnb79 := NB566_564.out
            have hnc79 := NB564_566.out
            obtain ⟨hcz80_0, hcz80_1, hfz80_0, hfz80_1⟩ := cz2 (W := w75) BK566
            have hnb81 := NB564_561.out
            have hnc81 := NB561_564.out
            obtain ⟨hcz82_0, hcz82_1, hfz82_0, hfz82_1⟩ := cz2 (W := w75) BK564
            try go_wp2_with (first | ((with_reducible refine gate_callee (f := 23) rfl ?_); refine goesL_ (some 63) rfl rfl Tryd.func23 (by kernel_rfl) rfl #[.agg #[.string (t562.extract 0 ((ji24) : Int).toNat), .int .i64 t563], .agg #[.string (⟨#[49]⟩ : ByteArray), .int .i64 (wrap64 ((wrap64 (t563 - (ji24))) + 1))]] rfl (by (try simp only [List.map_toArray, List.map_cons, List.map_nil]); first | done | (simp only [hji24]; rfl) | rfl | (simp only [List.length_drop, List.length_take]; rfl)) ?_; (with_reducible refine (bigdec_Add.calls kj11 (t562.extract 0 ((ji24) : Int).toNat) t563 (⟨#[49]⟩ : ByteArray) (wrap64 ((wrap64 (t563 - (ji24))) + 1)) t567 t568 t569 _ A27.out).mono ?_); rintro e w83 ⟨rfl, hb⟩; refine ⟨_, rfl, ?_⟩; replace BK561 := kN (g := gb561) (cs := #[.string t558, .int .i64 t559]) hb bk; replace BK564 := kN (g := gb564) (cs := #[.string t562, .int .i64 t563]) hb bk; replace BK566 := kN (g := gb566) (cs := #[.string (t562.extract 0 ((ji24) : Int).toNat), .int .i64 t563]) hb bk; replace HB := bN bz hb; (try clear hb); (try clear hb2); (try clear hk); (try clear hi)) | ((with_reducible refine gate_dst (N := 12) rfl ?_); (try (refine gate_guard (by rfl) ?_; dsimp only)); refine box_event rfl (N := 12) rfl (cs := #[.string (⟨#[]⟩ : ByteArray), .int .i64 0]) (t := 28) gz ?_; intro gb570 hg w84 hbox hb; have GW570 := gN bz hg; have GE570 := gN bz hg; have NB561_570 := lN (g := gb561) (cs := #[.string t558, .int .i64 t559]) hg bk; have NB570_561 := rN (g := gb561) (cs := #[.string t558, .int .i64 t559]) hg bk; have NB564_570 := lN (g := gb564) (cs := #[.string t562, .int .i64 t563]) hg bk; have NB570_564 := rN (g := gb564) (cs := #[.string t562, .int .i64 t563]) hg bk; have NB566_570 := lN (g := gb566) (cs := #[.string (t562.extract 0 ((ji24) : Int).toNat), .int .i64 t563]) hg bk; have NB570_566 := rN (g := gb566) (cs := #[.string (t562.extract 0 ((ji24) : Int).toNat), .int .i64 t563]) hg bk; replace BK561 := kN (g := gb561) (cs := #[.string t558, .int .i64 t559]) hb bk; replace BK564 := kN (g := gb564) (cs := #[.string t562, .int .i64 t563]) hb bk; replace BK566 := kN (g := gb566) (cs := #[.string (t562.extract 0 ((ji24) : Int).toNat), .int .i64 t563]) hb bk; have BK570 := Aside0.mk hbox; replace HB := bN bz hb; clear hb hbox hg; have hnb85 := NB570_561.out; have hnc85 := NB561_570.out; have hnb86 := NB570_564.out; have hnc86 := NB564_570.out; have hnb87 := NB570_566.out; have hnc87 := NB566_570.out; obtain ⟨hcz88_0, hcz88_1, hfz88_0, hfz88_1⟩ := cz2 (W := w84) BK570; obtain ⟨hcz89_0, hcz89_1, hfz89_0, hfz89_1⟩ := cz2 (W := w84) BK566) | ((with_reducible refine gate_callee (f := 16) rfl ?_); refine goesL_ (some 69) rfl rfl Tryd.func16 (by kernel_rfl) rfl #[.agg #[.string (t562.extract 0 ((ji24) : Int).toNat), .int .i64 t563], .int .i64 t557] rfl (by (try simp only [List.map_toArray, List.map_cons, List.map_nil]); first | done | (simp only [hji24]; rfl) | rfl | (simp only [List.length_drop, List.length_take]; rfl)) ?_; (with_reducible refine (short_Read.calls kj11 (t562.extract 0 ((ji24) : Int).toNat) t563 t557 t571 t572 _ A28.out).mono ?_); rintro e w90 ⟨rfl, hb⟩; refine ⟨_, rfl, ?_⟩; replace BK561 := kN (g := gb561) (cs := #[.string t558, .int .i64 t559]) hb bk; replace BK564 := kN (g := gb564) (cs := #[.string t562, .int .i64 t563]) hb bk; replace BK566 := kN (g := gb566) (cs := #[.string (t562.extract 0 ((ji24) : Int).toNat), .int .i64 t563]) hb bk; replace BK570 := kN (g := gb570) (cs := #[.string t567, .int .i64 t568]) hb bk; replace HB := bN bz hb; (try clear hb); (try clear hb2); (try clear hk); (try clear hi); obtain ⟨hcz91_0, hcz91_1, hfz91_0, hfz91_1⟩ := cz2 (W := w90) BK570) | ((with_reducible refine gate_callee (f := 16) rfl ?_); refine goesL_ (some 75) rfl rfl Tryd.func16 (by kernel_rfl) rfl #[.agg #[.string t567, .int .i64 t568], .int .i64 t557] rfl lz ?_; (with_reducible refine (short_Read.calls kj11 t567 t568 t557 t573 t574 _ A29.out).mono ?_); rintro e w92 ⟨rfl, hb⟩; refine ⟨_, rfl, ?_⟩; replace BK561 := kN (g := gb561) (cs := #[.string t558, .int .i64 t559]) hb bk; replace BK564 := kN (g := gb564) (cs := #[.string t562, .int .i64 t563]) hb bk; replace BK566 := kN (g := gb566) (cs := #[.string (t562.extract 0 ((ji24) : Int).toNat), .int .i64 t563]) hb bk; replace BK570 := kN (g := gb570) (cs := #[.string t567, .int .i64 t568]) hb bk; replace HB := bN bz hb; (try clear hb); (try clear hb2); (try clear hk); (try clear hi)) | (go_at_call 15; (with_reducible refine (platenlaw05_lives.calls kj11  t575 _ A73.out).mono ?_); rintro e w93 ⟨rfl, hb⟩; replace BK561 := kN (g := gb561) (cs := #[.string t558, .int .i64 t559]) hb bk; replace BK564 := kN (g := gb564) (cs := #[.string t562, .int .i64 t563]) hb bk; replace BK566 := kN (g := gb566) (cs := #[.string (t562.extract 0 ((ji24) : Int).toNat), .int .i64 t563]) hb bk; replace BK570 := kN (g := gb570) (cs := #[.string t567, .int .i64 t568]) hb bk; replace HB := bN bz hb; (try clear hb); (try clear hb2); (try clear hk); (try clear hi)))
            go_ret
            exact ⟨by first | rfl | (simp [errW_none, errW_some] <;> rfl) | (simp only [← hji24]; first | rfl | (simp [errW_none, errW_some] <;> rfl)) | (simp [*, errW_none, errW_some] <;> rfl), bz⟩
         ·rw [if_neg c32] at H
          obtain ⟨c32b0, c32b1⟩ := eF c32
          obtain rfl := Option.some.inj H
          try go_wp2
          replace BK561 := Aside0.mk (blk_drew BK561.out)
          replace BK564 := Aside0.mk (blk_drew BK564.out)
          replace HB := Aside0.mk (below_drew1 HB.out)
          refine start_ (n := 9) (S := fun w' => w'.cell? ⟨gb564, 0, none⟩ = some (.string t562) ∧ w'.cell? ⟨gb564, 1, none⟩ = some (.int .i64 t563)) (ds := []) #[false, false, false, false, false, false, false, false, false] (by kernel_rfl) rfl rfl ⟨(blk_cell BK564.out 0).trans rfl, (blk_cell BK564.out 1).trans rfl⟩ (fun hHeld => ?_); refine with_tabW platenlaw05_ShortLeast.tab9 platenlaw05_ShortLeast.bits9 (fun HT_ HW_ => ?_)
          generalize wc.drew = w94 at BK561 BK564 HB hHeld ⊢
          refine pure_ (i := 0) (N := some 48) (v := ?_) (a' := ?_) #[true, false, false, false, false, false, false, false, false] rfl rfl (any_of HT_.out (by kernel_rfl)) (fun _ _ _ h => h) (Or.inl ⟨by rfl, ?_⟩) ?_ ?_
          rotate_left
          ·intro w'
           go_simp
           with_reducible rfl
          rotate_left
          ·simp only [Act.put, List.setIfInBounds_toArray, List.set_cons_zero, List.set_cons_succ, i64_w, i32_w]
           rfl
          refine pure_ (i := 2) (N := some 50) (v := ?_) (a' := ?_) #[true, false, true, false, false, false, false, false, false] rfl rfl (any_of HT_.out (by kernel_rfl)) (fun _ _ _ h => h) (Or.inl ⟨by rfl, ?_⟩) ?_ ?_
          rotate_left
          ·intro w'
           go_simp
           with_reducible rfl
          rotate_left
          ·simp only [Act.put, List.setIfInBounds_toArray, List.set_cons_zero, List.set_cons_succ, i64_w, i32_w]
           rfl
          refine pure_ (i := 4) (N := some 52) (v := ?_) (a' := ?_) #[true, false, true, false, true, false, false, false, false] rfl rfl (any_of HT_.out (by kernel_rfl)) (fun _ _ _ h => h) (Or.inl ⟨by rfl, ?_⟩) ?_ ?_
          rotate_left
          ·intro w'
           go_simp
           with_reducible rfl
          rotate_left
          ·simp only [Act.put, List.setIfInBounds_toArray, List.set_cons_zero, List.set_cons_succ, i64_w, i32_w]
           rfl
          refine take_ (i := 1) (N := some 49) (v := ?_) (a' := ?_) #[true, true, true, false, true, false, false, false, false] rfl rfl (take_ofW HT_.out HW_.out (by kernel_rfl)) (fun _ _ _ h => h) (Or.inl ⟨by rfl, ?_⟩) hHeld ?_ ?_
          rotate_left
          ·rintro w' ⟨s0, s1⟩
           go_simp
           with_reducible rfl
          rotate_left
          ·simp only [Act.put, List.setIfInBounds_toArray, List.set_cons_zero, List.set_cons_succ, i64_w, i32_w]
           rfl
          refine pure_ (i := 3) (N := some 51) (v := ?_) (a' := ?_) #[true, true, true, true, true, false, false, false, false] rfl rfl (any_of HT_.out (by kernel_rfl)) (fun _ _ _ h => h) (Or.inl ⟨by rfl, ?_⟩) ?_ ?_
          rotate_left
          ·intro w'
           go_simp
           with_reducible rfl
          rotate_left
          ·simp only [Act.put, List.setIfInBounds_toArray, List.set_cons_zero, List.set_cons_succ, i64_w, i32_w]
           rfl
          refine take_ (i := 5) (N := some 53) (v := ?_) (a' := ?_) #[true, true, true, true, true, true, false, false, false] rfl rfl (take_ofW HT_.out HW_.out (by kernel_rfl)) (fun _ _ _ h => h) (Or.inl ⟨by rfl, ?_⟩) hHeld ?_ ?_
          rotate_left
          ·rintro w' ⟨s0, s1⟩
           go_simp
           with_reducible rfl
          rotate_left
          ·simp only [Act.put, List.setIfInBounds_toArray, List.set_cons_zero, List.set_cons_succ, i64_w, i32_w]
           rfl
          refine pure_ (i := 6) (N := some 54) (v := ?_) (a' := ?_) #[true, true, true, true, true, true, true, false, false] rfl rfl (any_of HT_.out (by kernel_rfl)) (fun _ _ _ h => h) (Or.inl ⟨by rfl, ?_⟩) ?_ ?_
          rotate_left
          ·intro w'
           go_simp
           with_reducible rfl
          rotate_left
          ·simp only [Act.put, List.setIfInBounds_toArray, List.set_cons_zero, List.set_cons_succ, i64_w, i32_w]
           rfl
          refine one_ (i := 7) (N := some 11) #[true, true, true, true, true, true, true, true, false] rfl rfl (one_of HT_.out (by kernel_rfl)) (by decide) (fun K hK => ?_)
          refine box_step ?hg (N := 11) ?hd (cs := #[.string (⟨#[]⟩ : ByteArray), .int .i64 0]) (t := 28) ?hr ?_; (case hd => rfl); (case hg => rfl); (case hr => first | (go_simp; done) | (go_simp; rfl))
          intro gb566 hg w95 hbox hb
          have BK566 := Aside0.mk (hbox)
          have GW566 := Aside0.mk ((by rw [hg]; exact (below_size bz) : w.heap.size ≤ gb566))
          have GE566 := Aside0.mk ((by rw [hg]; exact (below_size bz) : w.heap.size ≤ gb566))
          have NB561_566 := Aside0.mk ((by rw [hg]; exact Nat.ne_of_lt (blk_lt (g := gb561) (o := .cells #[.string t558, .int .i64 t559] 28 (0, 0)) bk) : gb561 ≠ gb566))
          have NB566_561 := Aside0.mk ((by rw [hg]; exact Nat.ne_of_gt (blk_lt (g := gb561) (o := .cells #[.string t558, .int .i64 t559] 28 (0, 0)) bk) : gb566 ≠ gb561))
          have NB564_566 := Aside0.mk ((by rw [hg]; exact Nat.ne_of_lt (blk_lt (g := gb564) (o := .cells #[.string t562, .int .i64 t563] 28 (0, 0)) bk) : gb564 ≠ gb566))
          have NB566_564 := Aside0.mk ((by rw [hg]; exact Nat.ne_of_gt (blk_lt (g := gb564) (o := .cells #[.string t562, .int .i64 t563] 28 (0, 0)) bk) : gb566 ≠ gb564))
          replace BK561 := Aside0.mk (blk_below (g := gb561) (o := .cells #[.string t558, .int .i64 t559] 28 (0, 0)) bk hb)
          replace BK564 := Aside0.mk (blk_below (g := gb564) (o := .cells #[.string t562, .int .i64 t563] 28 (0, 0)) bk hb)
          replace HB := Aside0.mk (below_step bz hb)
          clear hb hbox hg
          refine hK.out _ _ ⟨(blk_cell BK564.out 0).trans rfl, (blk_cell BK564.out 1).trans rfl⟩ (fun hHeld => ?_)
          clear hK K
          refine norm_ (a' := ?_) ?_ ?_
          rotate_left
          ·show Act.put _ (some 11) _ = _
           simp only [Act.put, List.setIfInBounds_toArray, List.set_cons_zero, List.set_cons_succ, i64_w, i32_w]
           rfl
          refine one_ (i := 8) (N := none) #[true, true, true, true, true, true, true, true, true] rfl rfl (one_of HT_.out (by kernel_rfl)) (by decide) (fun K hK => ?_)
          have hs96 : w95.cell? ⟨gb566, 0, none⟩ = some (.string (⟨#[]⟩ : ByteArray)) := (blk_cell BK566.out 0).trans rfl
          have hfs96 := blk_frozen BK566.out 0
          have hns96_0 := NB561_566.out
          have hns96_1 := NB564_566.out
          have hms96_0 := NB566_561.out
          have hms96_1 := NB566_564.out
          have hs97 : w95.cell? ⟨gb566, 1, none⟩ = some (.int .i64 0) := (blk_cell BK566.out 1).trans rfl
          have hfs97 := blk_frozen BK566.out 1
          have hns97_0 := NB561_566.out
          have hns97_1 := NB564_566.out
          have hms97_0 := NB566_561.out
          have hms97_1 := NB566_564.out
          refine skip_ (w1 := ?_) (by rfl) rfl ?_ ?_
          rotate_left
          ·go_simp
           rfl
          refine hK.out _ _ ⟨((cell_far (p := ⟨gb566, _, none⟩) NB564_566.out _).trans (((cell_far (p := ⟨gb566, _, none⟩) NB564_566.out _).trans (hHeld.1)))), ((cell_far (p := ⟨gb566, _, none⟩) NB564_566.out _).trans (((cell_far (p := ⟨gb566, _, none⟩) NB564_566.out _).trans (hHeld.2))))⟩ (fun hHeld => ?_)
          clear hK K
          refine done_ (done_of HT_.out (by kernel_rfl)) ?_
          have hnb98 := NB566_561.out
          have hnc98 := NB561_566.out
          have hnb99 := NB566_564.out
          have hnc99 := NB564_566.out
          obtain ⟨hcz100_0, hcz100_1, hfz100_0, hfz100_1⟩ := cz2 (W := w95) BK566
          have hnb101 := NB564_561.out
          have hnc101 := NB561_564.out
          obtain ⟨hcz102_0, hcz102_1, hfz102_0, hfz102_1⟩ := cz2 (W := w95) BK564
          try go_wp2_with (first | ((with_reducible refine gate_callee (f := 23) rfl ?_); refine goesL_ (some 63) rfl rfl Tryd.func23 (by kernel_rfl) rfl #[.agg #[.string (t562.extract 0 ((ji24) : Int).toNat), .int .i64 t563], .agg #[.string (⟨#[49]⟩ : ByteArray), .int .i64 (wrap64 ((wrap64 (t563 - (ji24))) + 1))]] rfl (by (try simp only [List.map_toArray, List.map_cons, List.map_nil]); first | done | (simp only [hji24]; rfl) | rfl | (simp only [List.length_drop, List.length_take]; rfl)) ?_; (with_reducible refine (bigdec_Add.calls kj11 (t562.extract 0 ((ji24) : Int).toNat) t563 (⟨#[49]⟩ : ByteArray) (wrap64 ((wrap64 (t563 - (ji24))) + 1)) t567 t568 t569 _ A27.out).mono ?_); rintro e w103 ⟨rfl, hb⟩; refine ⟨_, rfl, ?_⟩; replace BK561 := kN (g := gb561) (cs := #[.string t558, .int .i64 t559]) hb bk; replace BK564 := kN (g := gb564) (cs := #[.string t562, .int .i64 t563]) hb bk; replace BK566 := kN (g := gb566) (cs := #[.string (t562.extract 0 ((ji24) : Int).toNat), .int .i64 t563]) hb bk; replace HB := bN bz hb; (try clear hb); (try clear hb2); (try clear hk); (try clear hi)) | ((with_reducible refine gate_dst (N := 12) rfl ?_); (try (refine gate_guard (by rfl) ?_; dsimp only)); refine box_event rfl (N := 12) rfl (cs := #[.string (⟨#[]⟩ : ByteArray), .int .i64 0]) (t := 28) gz ?_; intro gb570 hg w104 hbox hb; have GW570 := gN bz hg; have GE570 := gN bz hg; have NB561_570 := lN (g := gb561) (cs := #[.string t558, .int .i64 t559]) hg bk; have NB570_561 := rN (g := gb561) (cs := #[.string t558, .int .i64 t559]) hg bk; have NB564_570 := lN (g := gb564) (cs := #[.string t562, .int .i64 t563]) hg bk; have NB570_564 := rN (g := gb564) (cs := #[.string t562, .int .i64 t563]) hg bk; have NB566_570 := lN (g := gb566) (cs := #[.string (t562.extract 0 ((ji24) : Int).toNat), .int .i64 t563]) hg bk; have NB570_566 := rN (g := gb566) (cs := #[.string (t562.extract 0 ((ji24) : Int).toNat), .int .i64 t563]) hg bk; replace BK561 := kN (g := gb561) (cs := #[.string t558, .int .i64 t559]) hb bk; replace BK564 := kN (g := gb564) (cs := #[.string t562, .int .i64 t563]) hb bk; replace BK566 := kN (g := gb566) (cs := #[.string (t562.extract 0 ((ji24) : Int).toNat), .int .i64 t563]) hb bk; have BK570 := Aside0.mk hbox; replace HB := bN bz hb; clear hb hbox hg; have hnb105 := NB570_561.out; have hnc105 := NB561_570.out; have hnb106 := NB570_564.out; have hnc106 := NB564_570.out; have hnb107 := NB570_566.out; have hnc107 := NB566_570.out; obtain ⟨hcz108_0, hcz108_1, hfz108_0, hfz108_1⟩ := cz2 (W := w104) BK570; obtain ⟨hcz109_0, hcz109_1, hfz109_0, hfz109_1⟩ := cz2 (W := w104) BK566) | ((with_reducible refine gate_callee (f := 16) rfl ?_); refine goesL_ (some 69) rfl rfl Tryd.func16 (by kernel_rfl) rfl #[.agg #[.string (t562.extract 0 ((ji24) : Int).toNat), .int .i64 t563], .int .i64 t557] rfl (by (try simp only [List.map_toArray, List.map_cons, List.map_nil]); first | done | (simp only [hji24]; rfl) | rfl | (simp only [List.length_drop, List.length_take]; rfl)) ?_; (with_reducible refine (short_Read.calls kj11 (t562.extract 0 ((ji24) : Int).toNat) t563 t557 t571 t572 _ A28.out).mono ?_); rintro e w110 ⟨rfl, hb⟩; refine ⟨_, rfl, ?_⟩; replace BK561 := kN (g := gb561) (cs := #[.string t558, .int .i64 t559]) hb bk; replace BK564 := kN (g := gb564) (cs := #[.string t562, .int .i64 t563]) hb bk; replace BK566 := kN (g := gb566) (cs := #[.string (t562.extract 0 ((ji24) : Int).toNat), .int .i64 t563]) hb bk; replace BK570 := kN (g := gb570) (cs := #[.string t567, .int .i64 t568]) hb bk; replace HB := bN bz hb; (try clear hb); (try clear hb2); (try clear hk); (try clear hi); obtain ⟨hcz111_0, hcz111_1, hfz111_0, hfz111_1⟩ := cz2 (W := w110) BK570) | ((with_reducible refine gate_callee (f := 16) rfl ?_); refine goesL_ (some 75) rfl rfl Tryd.func16 (by kernel_rfl) rfl #[.agg #[.string t567, .int .i64 t568], .int .i64 t557] rfl lz ?_; (with_reducible refine (short_Read.calls kj11 t567 t568 t557 t573 t574 _ A29.out).mono ?_); rintro e w112 ⟨rfl, hb⟩; refine ⟨_, rfl, ?_⟩; replace BK561 := kN (g := gb561) (cs := #[.string t558, .int .i64 t559]) hb bk; replace BK564 := kN (g := gb564) (cs := #[.string t562, .int .i64 t563]) hb bk; replace BK566 := kN (g := gb566) (cs := #[.string (t562.extract 0 ((ji24) : Int).toNat), .int .i64 t563]) hb bk; replace BK570 := kN (g := gb570) (cs := #[.string t567, .int .i64 t568]) hb bk; replace HB := bN bz hb; (try clear hb); (try clear hb2); (try clear hk); (try clear hi)))
          go_ret
          exact ⟨by first | rfl | (simp [errW_none, errW_some] <;> rfl) | (simp only [← hji24]; first | rfl | (simp [errW_none, errW_some] <;> rfl)) | (simp [*, errW_none, errW_some] <;> rfl), bz⟩
        ·rw [if_neg c31] at H
         obtain ⟨c31b0, c31b1⟩ := eF c31
         obtain rfl := Option.some.inj H
         try go_wp2
         replace BK561 := Aside0.mk (blk_drew BK561.out)
         replace BK564 := Aside0.mk (blk_drew BK564.out)
         replace HB := Aside0.mk (below_drew1 HB.out)
         refine start_ (n := 9) (S := fun w' => w'.cell? ⟨gb564, 0, none⟩ = some (.string t562) ∧ w'.cell? ⟨gb564, 1, none⟩ = some (.int .i64 t563)) (ds := []) #[false, false, false, false, false, false, false, false, false] (by kernel_rfl) rfl rfl ⟨(blk_cell BK564.out 0).trans rfl, (blk_cell BK564.out 1).trans rfl⟩ (fun hHeld => ?_); refine with_tabW platenlaw05_ShortLeast.tab9 platenlaw05_ShortLeast.bits9 (fun HT_ HW_ => ?_)
         generalize wc.drew = w113 at BK561 BK564 HB hHeld ⊢
         refine pure_ (i := 0) (N := some 48) (v := ?_) (a' := ?_) #[true, false, false, false, false, false, false, false, false] rfl rfl (any_of HT_.out (by kernel_rfl)) (fun _ _ _ h => h) (Or.inl ⟨by rfl, ?_⟩) ?_ ?_
         rotate_left
         ·intro w'
          go_simp
          with_reducible rfl
         rotate_left
         ·simp only [Act.put, List.setIfInBounds_toArray, List.set_cons_zero, List.set_cons_succ, i64_w, i32_w]
          rfl
         refine pure_ (i := 2) (N := some 50) (v := ?_) (a' := ?_) #[true, false, true, false, false, false, false, false, false] rfl rfl (any_of HT_.out (by kernel_rfl)) (fun _ _ _ h => h) (Or.inl ⟨by rfl, ?_⟩) ?_ ?_
         rotate_left
         ·intro w'
          go_simp
          with_reducible rfl
         rotate_left
         ·simp only [Act.put, List.setIfInBounds_toArray, List.set_cons_zero, List.set_cons_succ, i64_w, i32_w]
          rfl
         refine pure_ (i := 4) (N := some 52) (v := ?_) (a' := ?_) #[true, false, true, false, true, false, false, false, false] rfl rfl (any_of HT_.out (by kernel_rfl)) (fun _ _ _ h => h) (Or.inl ⟨by rfl, ?_⟩) ?_ ?_
         rotate_left
         ·intro w'
          go_simp
          with_reducible rfl
         rotate_left
         ·simp only [Act.put, List.setIfInBounds_toArray, List.set_cons_zero, List.set_cons_succ, i64_w, i32_w]
          rfl
         refine take_ (i := 1) (N := some 49) (v := ?_) (a' := ?_) #[true, true, true, false, true, false, false, false, false] rfl rfl (take_ofW HT_.out HW_.out (by kernel_rfl)) (fun _ _ _ h => h) (Or.inl ⟨by rfl, ?_⟩) hHeld ?_ ?_
         rotate_left
         ·rintro w' ⟨s0, s1⟩
          go_simp
          with_reducible rfl
         rotate_left
         ·simp only [Act.put, List.setIfInBounds_toArray, List.set_cons_zero, List.set_cons_succ, i64_w, i32_w]
          rfl
         refine pure_ (i := 3) (N := some 51) (v := ?_) (a' := ?_) #[true, true, true, true, true, false, false, false, false] rfl rfl (any_of HT_.out (by kernel_rfl)) (fun _ _ _ h => h) (Or.inl ⟨by rfl, ?_⟩) ?_ ?_
         rotate_left
         ·intro w'
          go_simp
          with_reducible rfl
         rotate_left
         ·simp only [Act.put, List.setIfInBounds_toArray, List.set_cons_zero, List.set_cons_succ, i64_w, i32_w]
          rfl
         refine take_ (i := 5) (N := some 53) (v := ?_) (a' := ?_) #[true, true, true, true, true, true, false, false, false] rfl rfl (take_ofW HT_.out HW_.out (by kernel_rfl)) (fun _ _ _ h => h) (Or.inl ⟨by rfl, ?_⟩) hHeld ?_ ?_
         rotate_left
         ·rintro w' ⟨s0, s1⟩
          go_simp
          with_reducible rfl
         rotate_left
         ·simp only [Act.put, List.setIfInBounds_toArray, List.set_cons_zero, List.set_cons_succ, i64_w, i32_w]
          rfl
         refine pure_ (i := 6) (N := some 54) (v := ?_) (a' := ?_) #[true, true, true, true, true, true, true, false, false] rfl rfl (any_of HT_.out (by kernel_rfl)) (fun _ _ _ h => h) (Or.inl ⟨by rfl, ?_⟩) ?_ ?_
         rotate_left
         ·intro w'
          go_simp
          with_reducible rfl
         rotate_left
         ·simp only [Act.put, List.setIfInBounds_toArray, List.set_cons_zero, List.set_cons_succ, i64_w, i32_w]
          rfl
         refine one_ (i := 7) (N := some 11) #[true, true, true, true, true, true, true, true, false] rfl rfl (one_of HT_.out (by kernel_rfl)) (by decide) (fun K hK => ?_)
         refine box_step ?hg (N := 11) ?hd (cs := #[.string (⟨#[]⟩ : ByteArray), .int .i64 0]) (t := 28) ?hr ?_; (case hd => rfl); (case hg => rfl); (case hr => first | (go_simp; done) | (go_simp; rfl))
         intro gb566 hg w114 hbox hb
         have BK566 := Aside0.mk (hbox)
         have GW566 := Aside0.mk ((by rw [hg]; exact (below_size bz) : w.heap.size ≤ gb566))
         have GE566 := Aside0.mk ((by rw [hg]; exact (below_size bz) : w.heap.size ≤ gb566))
         have NB561_566 := Aside0.mk ((by rw [hg]; exact Nat.ne_of_lt (blk_lt (g := gb561) (o := .cells #[.string t558, .int .i64 t559] 28 (0, 0)) bk) : gb561 ≠ gb566))
         have NB566_561 := Aside0.mk ((by rw [hg]; exact Nat.ne_of_gt (blk_lt (g := gb561) (o := .cells #[.string t558, .int .i64 t559] 28 (0, 0)) bk) : gb566 ≠ gb561))
         have NB564_566 := Aside0.mk ((by rw [hg]; exact Nat.ne_of_lt (blk_lt (g := gb564) (o := .cells #[.string t562, .int .i64 t563] 28 (0, 0)) bk) : gb564 ≠ gb566))
         have NB566_564 := Aside0.mk ((by rw [hg]; exact Nat.ne_of_gt (blk_lt (g := gb564) (o := .cells #[.string t562, .int .i64 t563] 28 (0, 0)) bk) : gb566 ≠ gb564))
         replace BK561 := Aside0.mk (blk_below (g := gb561) (o := .cells #[.string t558, .int .i64 t559] 28 (0, 0)) bk hb)
         replace BK564 := Aside0.mk (blk_below (g := gb564) (o := .cells #[.string t562, .int .i64 t563] 28 (0, 0)) bk hb)
         replace HB := Aside0.mk (below_step bz hb)
         clear hb hbox hg
         refine hK.out _ _ ⟨(blk_cell BK564.out 0).trans rfl, (blk_cell BK564.out 1).trans rfl⟩ (fun hHeld => ?_)
         clear hK K
         refine norm_ (a' := ?_) ?_ ?_
         rotate_left
         ·show Act.put _ (some 11) _ = _
          simp only [Act.put, List.setIfInBounds_toArray, List.set_cons_zero, List.set_cons_succ, i64_w, i32_w]
          rfl
         refine one_ (i := 8) (N := none) #[true, true, true, true, true, true, true, true, true] rfl rfl (one_of HT_.out (by kernel_rfl)) (by decide) (fun K hK => ?_)
         have hs115 : w114.cell? ⟨gb566, 0, none⟩ = some (.string (⟨#[]⟩ : ByteArray)) := (blk_cell BK566.out 0).trans rfl
         have hfs115 := blk_frozen BK566.out 0
         have hns115_0 := NB561_566.out
         have hns115_1 := NB564_566.out
         have hms115_0 := NB566_561.out
         have hms115_1 := NB566_564.out
         have hs116 : w114.cell? ⟨gb566, 1, none⟩ = some (.int .i64 0) := (blk_cell BK566.out 1).trans rfl
         have hfs116 := blk_frozen BK566.out 1
         have hns116_0 := NB561_566.out
         have hns116_1 := NB564_566.out
         have hms116_0 := NB566_561.out
         have hms116_1 := NB566_564.out
         refine skip_ (w1 := ?_) (by rfl) rfl ?_ ?_
         rotate_left
         ·go_simp
          rfl
         refine hK.out _ _ ⟨((cell_far (p := ⟨gb566, _, none⟩) NB564_566.out _).trans (((cell_far (p := ⟨gb566, _, none⟩) NB564_566.out _).trans (hHeld.1)))), ((cell_far (p := ⟨gb566, _, none⟩) NB564_566.out _).trans (((cell_far (p := ⟨gb566, _, none⟩) NB564_566.out _).trans (hHeld.2))))⟩ (fun hHeld => ?_)
         clear hK K
         refine done_ (done_of HT_.out (by kernel_rfl)) ?_
         have hnb117 := NB566_561.out
         have hnc117 := NB561_566.out
         have hnb118 := NB566_564.out
         have hnc118 := NB564_566.out
         obtain ⟨hcz119_0, hcz119_1, hfz119_0, hfz119_1⟩ := cz2 (W := w114) BK566
         have hnb120 := NB564_561.out
         have hnc120 := NB561_564.out
         obtain ⟨hcz121_0, hcz121_1, hfz121_0, hfz121_1⟩ := cz2 (W := w114) BK564
         try go_wp2_with (first | ((with_reducible refine gate_callee (f := 23) rfl ?_); refine goesL_ (some 63) rfl rfl Tryd.func23 (by kernel_rfl) rfl #[.agg #[.string (t562.extract 0 ((ji24) : Int).toNat), .int .i64 t563], .agg #[.string (⟨#[49]⟩ : ByteArray), .int .i64 (wrap64 ((wrap64 (t563 - (ji24))) + 1))]] rfl (by (try simp only [List.map_toArray, List.map_cons, List.map_nil]); first | done | (simp only [hji24]; rfl) | rfl | (simp only [List.length_drop, List.length_take]; rfl)) ?_; (with_reducible refine (bigdec_Add.calls kj11 (t562.extract 0 ((ji24) : Int).toNat) t563 (⟨#[49]⟩ : ByteArray) (wrap64 ((wrap64 (t563 - (ji24))) + 1)) t567 t568 t569 _ A27.out).mono ?_); rintro e w122 ⟨rfl, hb⟩; refine ⟨_, rfl, ?_⟩; replace BK561 := kN (g := gb561) (cs := #[.string t558, .int .i64 t559]) hb bk; replace BK564 := kN (g := gb564) (cs := #[.string t562, .int .i64 t563]) hb bk; replace BK566 := kN (g := gb566) (cs := #[.string (t562.extract 0 ((ji24) : Int).toNat), .int .i64 t563]) hb bk; replace HB := bN bz hb; (try clear hb); (try clear hb2); (try clear hk); (try clear hi)) | ((with_reducible refine gate_dst (N := 12) rfl ?_); (try (refine gate_guard (by rfl) ?_; dsimp only)); refine box_event rfl (N := 12) rfl (cs := #[.string (⟨#[]⟩ : ByteArray), .int .i64 0]) (t := 28) gz ?_; intro gb570 hg w123 hbox hb; have GW570 := gN bz hg; have GE570 := gN bz hg; have NB561_570 := lN (g := gb561) (cs := #[.string t558, .int .i64 t559]) hg bk; have NB570_561 := rN (g := gb561) (cs := #[.string t558, .int .i64 t559]) hg bk; have NB564_570 := lN (g := gb564) (cs := #[.string t562, .int .i64 t563]) hg bk; have NB570_564 := rN (g := gb564) (cs := #[.string t562, .int .i64 t563]) hg bk; have NB566_570 := lN (g := gb566) (cs := #[.string (t562.extract 0 ((ji24) : Int).toNat), .int .i64 t563]) hg bk; have NB570_566 := rN (g := gb566) (cs := #[.string (t562.extract 0 ((ji24) : Int).toNat), .int .i64 t563]) hg bk; replace BK561 := kN (g := gb561) (cs := #[.string t558, .int .i64 t559]) hb bk; replace BK564 := kN (g := gb564) (cs := #[.string t562, .int .i64 t563]) hb bk; replace BK566 := kN (g := gb566) (cs := #[.string (t562.extract 0 ((ji24) : Int).toNat), .int .i64 t563]) hb bk; have BK570 := Aside0.mk hbox; replace HB := bN bz hb; clear hb hbox hg; have hnb124 := NB570_561.out; have hnc124 := NB561_570.out; have hnb125 := NB570_564.out; have hnc125 := NB564_570.out; have hnb126 := NB570_566.out; have hnc126 := NB566_570.out; obtain ⟨hcz127_0, hcz127_1, hfz127_0, hfz127_1⟩ := cz2 (W := w123) BK570; obtain ⟨hcz128_0, hcz128_1, hfz128_0, hfz128_1⟩ := cz2 (W := w123) BK566) | ((with_reducible refine gate_callee (f := 16) rfl ?_); refine goesL_ (some 69) rfl rfl Tryd.func16 (by kernel_rfl) rfl #[.agg #[.string (t562.extract 0 ((ji24) : Int).toNat), .int .i64 t563], .int .i64 t557] rfl (by (try simp only [List.map_toArray, List.map_cons, List.map_nil]); first | done | (simp only [hji24]; rfl) | rfl | (simp only [List.length_drop, List.length_take]; rfl)) ?_; (with_reducible refine (short_Read.calls kj11 (t562.extract 0 ((ji24) : Int).toNat) t563 t557 t571 t572 _ A28.out).mono ?_); rintro e w129 ⟨rfl, hb⟩; refine ⟨_, rfl, ?_⟩; replace BK561 := kN (g := gb561) (cs := #[.string t558, .int .i64 t559]) hb bk; replace BK564 := kN (g := gb564) (cs := #[.string t562, .int .i64 t563]) hb bk; replace BK566 := kN (g := gb566) (cs := #[.string (t562.extract 0 ((ji24) : Int).toNat), .int .i64 t563]) hb bk; replace BK570 := kN (g := gb570) (cs := #[.string t567, .int .i64 t568]) hb bk; replace HB := bN bz hb; (try clear hb); (try clear hb2); (try clear hk); (try clear hi); obtain ⟨hcz130_0, hcz130_1, hfz130_0, hfz130_1⟩ := cz2 (W := w129) BK570) | ((with_reducible refine gate_callee (f := 16) rfl ?_); refine goesL_ (some 75) rfl rfl Tryd.func16 (by kernel_rfl) rfl #[.agg #[.string t567, .int .i64 t568], .int .i64 t557] rfl lz ?_; (with_reducible refine (short_Read.calls kj11 t567 t568 t557 t573 t574 _ A29.out).mono ?_); rintro e w131 ⟨rfl, hb⟩; refine ⟨_, rfl, ?_⟩; replace BK561 := kN (g := gb561) (cs := #[.string t558, .int .i64 t559]) hb bk; replace BK564 := kN (g := gb564) (cs := #[.string t562, .int .i64 t563]) hb bk; replace BK566 := kN (g := gb566) (cs := #[.string (t562.extract 0 ((ji24) : Int).toNat), .int .i64 t563]) hb bk; replace BK570 := kN (g := gb570) (cs := #[.string t567, .int .i64 t568]) hb bk; replace HB := bN bz hb; (try clear hb); (try clear hb2); (try clear hk); (try clear hi)))
         go_ret
         exact ⟨by first | rfl | (simp [errW_none, errW_some] <;> rfl) | (simp only [← hji24]; first | rfl | (simp [errW_none, errW_some] <;> rfl)) | (simp [*, errW_none, errW_some] <;> rfl), bz⟩
       ·rw [if_neg c30] at H
        obtain ⟨c30b0, c30b1⟩ := eF c30
        obtain rfl := Option.some.inj H
        try go_wp2
        replace BK561 := Aside0.mk (blk_drew BK561.out)
        replace BK564 := Aside0.mk (blk_drew BK564.out)
        replace HB := Aside0.mk (below_drew1 HB.out)
        refine start_ (n := 9) (S := fun w' => w'.cell? ⟨gb564, 0, none⟩ = some (.string t562) ∧ w'.cell? ⟨gb564, 1, none⟩ = some (.int .i64 t563)) (ds := []) #[false, false, false, false, false, false, false, false, false] (by kernel_rfl) rfl rfl ⟨(blk_cell BK564.out 0).trans rfl, (blk_cell BK564.out 1).trans rfl⟩ (fun hHeld => ?_); refine with_tabW platenlaw05_ShortLeast.tab9 platenlaw05_ShortLeast.bits9 (fun HT_ HW_ => ?_)
        generalize wc.drew = w132 at BK561 BK564 HB hHeld ⊢
        refine pure_ (i := 0) (N := some 48) (v := ?_) (a' := ?_) #[true, false, false, false, false, false, false, false, false] rfl rfl (any_of HT_.out (by kernel_rfl)) (fun _ _ _ h => h) (Or.inl ⟨by rfl, ?_⟩) ?_ ?_
        rotate_left
        ·intro w'
         go_simp
         with_reducible rfl
        rotate_left
        ·simp only [Act.put, List.setIfInBounds_toArray, List.set_cons_zero, List.set_cons_succ, i64_w, i32_w]
         rfl
        refine pure_ (i := 2) (N := some 50) (v := ?_) (a' := ?_) #[true, false, true, false, false, false, false, false, false] rfl rfl (any_of HT_.out (by kernel_rfl)) (fun _ _ _ h => h) (Or.inl ⟨by rfl, ?_⟩) ?_ ?_
        rotate_left
        ·intro w'
         go_simp
         with_reducible rfl
        rotate_left
        ·simp only [Act.put, List.setIfInBounds_toArray, List.set_cons_zero, List.set_cons_succ, i64_w, i32_w]
         rfl
        refine pure_ (i := 4) (N := some 52) (v := ?_) (a' := ?_) #[true, false, true, false, true, false, false, false, false] rfl rfl (any_of HT_.out (by kernel_rfl)) (fun _ _ _ h => h) (Or.inl ⟨by rfl, ?_⟩) ?_ ?_
        rotate_left
        ·intro w'
         go_simp
         with_reducible rfl
        rotate_left
        ·simp only [Act.put, List.setIfInBounds_toArray, List.set_cons_zero, List.set_cons_succ, i64_w, i32_w]
         rfl
        refine take_ (i := 1) (N := some 49) (v := ?_) (a' := ?_) #[true, true, true, false, true, false, false, false, false] rfl rfl (take_ofW HT_.out HW_.out (by kernel_rfl)) (fun _ _ _ h => h) (Or.inl ⟨by rfl, ?_⟩) hHeld ?_ ?_
        rotate_left
        ·rintro w' ⟨s0, s1⟩
         go_simp
         with_reducible rfl
        rotate_left
        ·simp only [Act.put, List.setIfInBounds_toArray, List.set_cons_zero, List.set_cons_succ, i64_w, i32_w]
         rfl
        refine pure_ (i := 3) (N := some 51) (v := ?_) (a' := ?_) #[true, true, true, true, true, false, false, false, false] rfl rfl (any_of HT_.out (by kernel_rfl)) (fun _ _ _ h => h) (Or.inl ⟨by rfl, ?_⟩) ?_ ?_
        rotate_left
        ·intro w'
         go_simp
         with_reducible rfl
        rotate_left
        ·simp only [Act.put, List.setIfInBounds_toArray, List.set_cons_zero, List.set_cons_succ, i64_w, i32_w]
         rfl
        refine take_ (i := 5) (N := some 53) (v := ?_) (a' := ?_) #[true, true, true, true, true, true, false, false, false] rfl rfl (take_ofW HT_.out HW_.out (by kernel_rfl)) (fun _ _ _ h => h) (Or.inl ⟨by rfl, ?_⟩) hHeld ?_ ?_
        rotate_left
        ·rintro w' ⟨s0, s1⟩
         go_simp
         with_reducible rfl
        rotate_left
        ·simp only [Act.put, List.setIfInBounds_toArray, List.set_cons_zero, List.set_cons_succ, i64_w, i32_w]
         rfl
        refine pure_ (i := 6) (N := some 54) (v := ?_) (a' := ?_) #[true, true, true, true, true, true, true, false, false] rfl rfl (any_of HT_.out (by kernel_rfl)) (fun _ _ _ h => h) (Or.inl ⟨by rfl, ?_⟩) ?_ ?_
        rotate_left
        ·intro w'
         go_simp
         with_reducible rfl
        rotate_left
        ·simp only [Act.put, List.setIfInBounds_toArray, List.set_cons_zero, List.set_cons_succ, i64_w, i32_w]
         rfl
        refine one_ (i := 7) (N := some 11) #[true, true, true, true, true, true, true, true, false] rfl rfl (one_of HT_.out (by kernel_rfl)) (by decide) (fun K hK => ?_)
        refine box_step ?hg (N := 11) ?hd (cs := #[.string (⟨#[]⟩ : ByteArray), .int .i64 0]) (t := 28) ?hr ?_; (case hd => rfl); (case hg => rfl); (case hr => first | (go_simp; done) | (go_simp; rfl))
        intro gb566 hg w133 hbox hb
        have BK566 := Aside0.mk (hbox)
        have GW566 := Aside0.mk ((by rw [hg]; exact (below_size bz) : w.heap.size ≤ gb566))
        have GE566 := Aside0.mk ((by rw [hg]; exact (below_size bz) : w.heap.size ≤ gb566))
        have NB561_566 := Aside0.mk ((by rw [hg]; exact Nat.ne_of_lt (blk_lt (g := gb561) (o := .cells #[.string t558, .int .i64 t559] 28 (0, 0)) bk) : gb561 ≠ gb566))
        have NB566_561 := Aside0.mk ((by rw [hg]; exact Nat.ne_of_gt (blk_lt (g := gb561) (o := .cells #[.string t558, .int .i64 t559] 28 (0, 0)) bk) : gb566 ≠ gb561))
        have NB564_566 := Aside0.mk ((by rw [hg]; exact Nat.ne_of_lt (blk_lt (g := gb564) (o := .cells #[.string t562, .int .i64 t563] 28 (0, 0)) bk) : gb564 ≠ gb566))
        have NB566_564 := Aside0.mk ((by rw [hg]; exact Nat.ne_of_gt (blk_lt (g := gb564) (o := .cells #[.string t562, .int .i64 t563] 28 (0, 0)) bk) : gb566 ≠ gb564))
        replace BK561 := Aside0.mk (blk_below (g := gb561) (o := .cells #[.string t558, .int .i64 t559] 28 (0, 0)) bk hb)
        replace BK564 := Aside0.mk (blk_below (g := gb564) (o := .cells #[.string t562, .int .i64 t563] 28 (0, 0)) bk hb)
        replace HB := Aside0.mk (below_step bz hb)
        clear hb hbox hg
        refine hK.out _ _ ⟨(blk_cell BK564.out 0).trans rfl, (blk_cell BK564.out 1).trans rfl⟩ (fun hHeld => ?_)
        clear hK K
        refine norm_ (a' := ?_) ?_ ?_
        rotate_left
        ·show Act.put _ (some 11) _ = _
         simp only [Act.put, List.setIfInBounds_toArray, List.set_cons_zero, List.set_cons_succ, i64_w, i32_w]
         rfl
        refine one_ (i := 8) (N := none) #[true, true, true, true, true, true, true, true, true] rfl rfl (one_of HT_.out (by kernel_rfl)) (by decide) (fun K hK => ?_)
        have hs134 : w133.cell? ⟨gb566, 0, none⟩ = some (.string (⟨#[]⟩ : ByteArray)) := (blk_cell BK566.out 0).trans rfl
        have hfs134 := blk_frozen BK566.out 0
        have hns134_0 := NB561_566.out
        have hns134_1 := NB564_566.out
        have hms134_0 := NB566_561.out
        have hms134_1 := NB566_564.out
        have hs135 : w133.cell? ⟨gb566, 1, none⟩ = some (.int .i64 0) := (blk_cell BK566.out 1).trans rfl
        have hfs135 := blk_frozen BK566.out 1
        have hns135_0 := NB561_566.out
        have hns135_1 := NB564_566.out
        have hms135_0 := NB566_561.out
        have hms135_1 := NB566_564.out
        refine skip_ (w1 := ?_) (by rfl) rfl ?_ ?_
        rotate_left
        ·go_simp
         rfl
        refine hK.out _ _ ⟨((cell_far (p := ⟨gb566, _, none⟩) NB564_566.out _).trans (((cell_far (p := ⟨gb566, _, none⟩) NB564_566.out _).trans (hHeld.1)))), ((cell_far (p := ⟨gb566, _, none⟩) NB564_566.out _).trans (((cell_far (p := ⟨gb566, _, none⟩) NB564_566.out _).trans (hHeld.2))))⟩ (fun hHeld => ?_)
        clear hK K
        refine done_ (done_of HT_.out (by kernel_rfl)) ?_
        have hnb136 := NB566_561.out
        have hnc136 := NB561_566.out
        have hnb137 := NB566_564.out
        have hnc137 := NB564_566.out
        obtain ⟨hcz138_0, hcz138_1, hfz138_0, hfz138_1⟩ := cz2 (W := w133) BK566
        have hnb139 := NB564_561.out
        have hnc139 := NB561_564.out
        obtain ⟨hcz140_0, hcz140_1, hfz140_0, hfz140_1⟩ := cz2 (W := w133) BK564
        try go_wp2_with (first | ((with_reducible refine gate_callee (f := 23) rfl ?_); refine goesL_ (some 63) rfl rfl Tryd.func23 (by kernel_rfl) rfl #[.agg #[.string (t562.extract 0 ((ji24) : Int).toNat), .int .i64 t563], .agg #[.string (⟨#[49]⟩ : ByteArray), .int .i64 (wrap64 ((wrap64 (t563 - (ji24))) + 1))]] rfl (by (try simp only [List.map_toArray, List.map_cons, List.map_nil]); first | done | (simp only [hji24]; rfl) | rfl | (simp only [List.length_drop, List.length_take]; rfl)) ?_; (with_reducible refine (bigdec_Add.calls kj11 (t562.extract 0 ((ji24) : Int).toNat) t563 (⟨#[49]⟩ : ByteArray) (wrap64 ((wrap64 (t563 - (ji24))) + 1)) t567 t568 t569 _ A27.out).mono ?_); rintro e w141 ⟨rfl, hb⟩; refine ⟨_, rfl, ?_⟩; replace BK561 := kN (g := gb561) (cs := #[.string t558, .int .i64 t559]) hb bk; replace BK564 := kN (g := gb564) (cs := #[.string t562, .int .i64 t563]) hb bk; replace BK566 := kN (g := gb566) (cs := #[.string (t562.extract 0 ((ji24) : Int).toNat), .int .i64 t563]) hb bk; replace HB := bN bz hb; (try clear hb); (try clear hb2); (try clear hk); (try clear hi)) | ((with_reducible refine gate_dst (N := 12) rfl ?_); (try (refine gate_guard (by rfl) ?_; dsimp only)); refine box_event rfl (N := 12) rfl (cs := #[.string (⟨#[]⟩ : ByteArray), .int .i64 0]) (t := 28) gz ?_; intro gb570 hg w142 hbox hb; have GW570 := gN bz hg; have GE570 := gN bz hg; have NB561_570 := lN (g := gb561) (cs := #[.string t558, .int .i64 t559]) hg bk; have NB570_561 := rN (g := gb561) (cs := #[.string t558, .int .i64 t559]) hg bk; have NB564_570 := lN (g := gb564) (cs := #[.string t562, .int .i64 t563]) hg bk; have NB570_564 := rN (g := gb564) (cs := #[.string t562, .int .i64 t563]) hg bk; have NB566_570 := lN (g := gb566) (cs := #[.string (t562.extract 0 ((ji24) : Int).toNat), .int .i64 t563]) hg bk; have NB570_566 := rN (g := gb566) (cs := #[.string (t562.extract 0 ((ji24) : Int).toNat), .int .i64 t563]) hg bk; replace BK561 := kN (g := gb561) (cs := #[.string t558, .int .i64 t559]) hb bk; replace BK564 := kN (g := gb564) (cs := #[.string t562, .int .i64 t563]) hb bk; replace BK566 := kN (g := gb566) (cs := #[.string (t562.extract 0 ((ji24) : Int).toNat), .int .i64 t563]) hb bk; have BK570 := Aside0.mk hbox; replace HB := bN bz hb; clear hb hbox hg; have hnb143 := NB570_561.out; have hnc143 := NB561_570.out; have hnb144 := NB570_564.out; have hnc144 := NB564_570.out; have hnb145 := NB570_566.out; have hnc145 := NB566_570.out; obtain ⟨hcz146_0, hcz146_1, hfz146_0, hfz146_1⟩ := cz2 (W := w142) BK570; obtain ⟨hcz147_0, hcz147_1, hfz147_0, hfz147_1⟩ := cz2 (W := w142) BK566) | ((with_reducible refine gate_callee (f := 16) rfl ?_); refine goesL_ (some 69) rfl rfl Tryd.func16 (by kernel_rfl) rfl #[.agg #[.string (t562.extract 0 ((ji24) : Int).toNat), .int .i64 t563], .int .i64 t557] rfl (by (try simp only [List.map_toArray, List.map_cons, List.map_nil]); first | done | (simp only [hji24]; rfl) | rfl | (simp only [List.length_drop, List.length_take]; rfl)) ?_; (with_reducible refine (short_Read.calls kj11 (t562.extract 0 ((ji24) : Int).toNat) t563 t557 t571 t572 _ A28.out).mono ?_); rintro e w148 ⟨rfl, hb⟩; refine ⟨_, rfl, ?_⟩; replace BK561 := kN (g := gb561) (cs := #[.string t558, .int .i64 t559]) hb bk; replace BK564 := kN (g := gb564) (cs := #[.string t562, .int .i64 t563]) hb bk; replace BK566 := kN (g := gb566) (cs := #[.string (t562.extract 0 ((ji24) : Int).toNat), .int .i64 t563]) hb bk; replace BK570 := kN (g := gb570) (cs := #[.string t567, .int .i64 t568]) hb bk; replace HB := bN bz hb; (try clear hb); (try clear hb2); (try clear hk); (try clear hi); obtain ⟨hcz149_0, hcz149_1, hfz149_0, hfz149_1⟩ := cz2 (W := w148) BK570) | ((with_reducible refine gate_callee (f := 16) rfl ?_); refine goesL_ (some 75) rfl rfl Tryd.func16 (by kernel_rfl) rfl #[.agg #[.string t567, .int .i64 t568], .int .i64 t557] rfl lz ?_; (with_reducible refine (short_Read.calls kj11 t567 t568 t557 t573 t574 _ A29.out).mono ?_); rintro e w150 ⟨rfl, hb⟩; refine ⟨_, rfl, ?_⟩; replace BK561 := kN (g := gb561) (cs := #[.string t558, .int .i64 t559]) hb bk; replace BK564 := kN (g := gb564) (cs := #[.string t562, .int .i64 t563]) hb bk; replace BK566 := kN (g := gb566) (cs := #[.string (t562.extract 0 ((ji24) : Int).toNat), .int .i64 t563]) hb bk; replace BK570 := kN (g := gb570) (cs := #[.string t567, .int .i64 t568]) hb bk; replace HB := bN bz hb; (try clear hb); (try clear hb2); (try clear hk); (try clear hi)))
        go_ret
        exact ⟨by first | rfl | (simp [errW_none, errW_some] <;> rfl) | (simp only [← hji24]; first | rfl | (simp [errW_none, errW_some] <;> rfl)) | (simp [*, errW_none, errW_some] <;> rfl), bz⟩
      ·rw [if_neg c26] at H
       exact absurd H (by simp)
     ·rw [if_neg c25] at H
      exact absurd H (by simp)
 ·rw [if_neg c10] at H
  obtain ⟨c10b0, c10b1⟩ := eF c10
  try first | rw [c10b0] | rw [c10b1]
  obtain rfl := Option.some.inj H
  go_wp2
  go_ret
  exact ⟨ez, bz⟩
end Go.Proofs.YtmeapdchnnpceaaDoor.Fn
end
section
namespace Go.Proofs.YtmeapdchnnpceaaDoor.Pure
open Go.RowKit Go.Proofs.YtmeapdchnnpceaaDoorW.PrintWords Go.Proofs.YtmeapdchnnpceaaDoor.Fn
set_option linter.unusedVariables false
set_option linter.unusedSimpArgs false
theorem rdS_norm (wide : Bool) {s t : ByteArray} {p q : Int} (h : normS s p = normS t q) : rdS wide s p = rdS wide t q := by
  unfold rdS; rw [h]
theorem addS_norm {s t u : ByteArray} {p q r : Int} (h : normS s p = normS t q) : addS s p u r = addS t q u r := by
  unfold addS; rw [h]
theorem norm_low {wide : Bool} {p : Nat} {v : List UInt8 × Int} (hv : Val wide p v) {n : Nat} (hn : n < v.1.length) :
    normS (S (v.1.take n)) v.2 = normS (S (decOf (cU v n) (cE v n)).1) (decOf (cU v n) (cE v n)).2 := by
  have hl := hv.len
  have hlo := hv.lo
  have hhi := hv.hi
  have h5 := hv.five
  have hb := dec_bound (cU_lt hv n hn) (e := cE v n) (by omega) (by unfold cE; omega) (by unfold cE; omega)
  have htl : (v.1.take n).length = n := by rw [List.length_take, Nat.min_eq_left (by omega)]
  rw [normS_all (hv.form.1.take n) (by omega) h5.2, htl, normS_ok (inForm_decOf _ _) hb.1 hb.2]
  rfl
theorem add_high {wide : Bool} {p : Nat} {v : List UInt8 × Int} (hv : Val wide p v) {n : Nat} (hn : n < v.1.length) :
    addS (S (v.1.take n)) v.2 (⟨#[49]⟩ : ByteArray) (cE v n + 1) = (S (decOf (cU v n + 1) (cE v n)).1, (decOf (cU v n + 1) (cE v n)).2, 0) := by
  have hl := hv.len
  have hlo := hv.lo
  have hhi := hv.hi
  have hu := cU_lt hv n hn
  have hu1 : cU v n + 1 < 10 ^ (n + 1) := by
    rw [Nat.pow_succ]
    have : 1 ≤ 10 ^ n := Nat.pow_pos (by omega)
    omega
  have hE : -3000 ≤ cE v n ∧ cE v n + ((n + 1 : Nat) : Int) ≤ 3000 := by unfold cE; omega
  have hE' : cE v n + (n : Int) ≤ 3000 := by omega
  have hE1 : cE v n + ((1 : Nat) : Int) ≤ 3000 := by omega
  rw [addS_norm (norm_low hv hn)]
  have hone := one_decOf (cE v n)
  have ho1 : (S ([49] : List UInt8)) = S (decOf 1 (cE v n)).1 := congrArg Prod.fst hone
  have ho2 : cE v n + 1 = (decOf 1 (cE v n)).2 := congrArg Prod.snd hone
  rw [show (⟨#[49]⟩ : ByteArray) = S ([49] : List UInt8) from rfl, ho1, ho2]
  rw [addS_ok (inForm_decOf _ _) (inForm_decOf _ _) (dec_bound hu (by omega) hE.1 hE') (dec_bound (n := 1) (k := 1) (by decide) (by decide) hE.1 hE1)]
  unfold addD
  rw [sum_decOf, if_neg (by have := (dec_bound hu1 (by omega) hE.1 hE.2).1; omega)]
  rfl
theorem least_core (wide : Bool) {p : Nat} (hp : p < ii wide) (h0 : p ≠ 0) {n : Nat} (hs : (shortD wide p).1.length = n + 1) (h1 : 1 ≤ n) : ¬ isP wide p (cU (exV wide p) n) (cE (exV wide p) n) ∧ ¬ isP wide p (cU (exV wide p) n + 1) (cE (exV wide p) n) := by
  obtain ⟨M, g1, g2, g3⟩ := short_spec wide p
  have hM := best_len (exV_val wide hp) g1 g2
  exact (best_none (g3 n h1 (by omega))).2.2
theorem ShortLeast : ∀ (a0 : Int) (a1 : Bool), (Lit.int .u64 a0).wf = true → ∃ k, platenlaw05_ShortLeast.f k a0 a1 = some true := by
  intro a0 wide h0
  obtain ⟨a, rfl, ha⟩ := wf_u64 h0
  refine Ev.rounds (g := fun k => platenlaw05_ShortLeast.f k (a : Int) wide) ?_
  unfold platenlaw05_ShortLeast.f
  obtain ⟨p, hp, hpi⟩ := finite_eq wide a ha
  rw [sized_law]
  simp only [Option.bind_some]
  rw [hp]
  simp only [Option.bind_some]
  refine Ev.bind (shortest_eq wide p (Nat.lt_trans hpi (ii_two wide))) ?_
  refine Ev.congr (fun k => if_pos (short_err wide hpi)) ?_
  refine Ev.bind (exactLaw_ev wide hpi) ?_
  have hsz := short_size wide hpi
  have hv := exV_val wide hpi
  have hvl := hv.len
  have hlo := hv.lo
  have hhi := hv.hi
  have hw : wrap64 (((shortS wide p).1.size : Int) - 1) = ((shortS wide p).1.size : Int) - 1 := wrap_id (by omega) (by split at hsz <;> omega)
  dsimp only
  rw [hw, size_S]
  have hend : ∀ x9, Ev (fun k => platenlaw05_ShortLeast.j0 k (p : Int) (szB wide) x9 true (S (exV wide p).1) (exV wide p).2) true := fun x9 => by
    refine Ev.step (fun k => by simp only [platenlaw05_ShortLeast.j0]; rfl) ?_
    exact Ev.congr (fun k => if_pos trivial) livesEnd
  by_cases c1 : ((shortS wide p).1.size : Int) - 1 < 1
  · exact Ev.congr (fun k => if_pos c1) (hend _)
  · refine Ev.congr (fun k => if_neg c1) ?_
    by_cases c2 : ((shortS wide p).1.size : Int) - 1 ≥ ((exV wide p).1.length : Int)
    · rw [decide_eq_true c2]
      exact hend _
    · rw [decide_eq_false c2]
      have hp0 : p ≠ 0 := by
        intro e
        rw [shortS_fin wide hpi, if_pos e] at c1
        exact c1 (by decide)
      have hS : (shortS wide p).1.size = (shortD wide p).1.length := by rw [shortS_fin wide hpi, if_neg hp0]; exact size_S _
      obtain ⟨n, hn⟩ : ∃ n, (shortD wide p).1.length = n + 1 := ⟨(shortD wide p).1.length - 1, by omega⟩
      rw [hS, hn] at c1 c2 ⊢
      have hnn : (((n + 1 : Nat) : Int) - 1) = (n : Int) := by omega
      rw [hnn] at c1 c2 ⊢
      have hnl : n < (exV wide p).1.length := by omega
      obtain ⟨k1, k2⟩ := least_core wide hpi hp0 hn (by omega)
      refine Ev.step (fun k => by simp only [platenlaw05_ShortLeast.j0]; rfl) ?_
      refine Ev.congr (fun k => if_neg (by simp)) ?_
      refine Ev.congr (fun k => if_pos (by omega)) ?_
      refine Ev.congr (fun k => if_pos (by rw [size_S]; omega)) ?_
      rw [Int.toNat_natCast, S_take]
      have hcE : wrap64 (wrap64 ((exV wide p).2 - (n : Int)) + 1) = cE (exV wide p) n + 1 := by
        unfold cE
        rw [wrap_id (x := (exV wide p).2 - (n : Int)) (by omega) (by omega), wrap_id (by omega) (by omega)]
      rw [hcE]
      have hadd := addS_eq (S ((exV wide p).1.take n)) (exV wide p).2 (⟨#[49]⟩ : ByteArray) (cE (exV wide p) n + 1)
      rw [add_high hv hnl] at hadd
      have hr1 := read_eq wide (S ((exV wide p).1.take n)) (exV wide p).2
      rw [rdS_norm wide (norm_low hv hnl), rd_cand hpi hnl (.inl rfl)] at hr1
      have hr2 := read_eq wide (S (decOf (cU (exV wide p) n + 1) (cE (exV wide p) n)).1) (decOf (cU (exV wide p) n + 1) (cE (exV wide p) n)).2
      rw [rd_cand hpi hnl (.inr rfl)] at hr2
      refine Ev.bind hadd ?_
      refine Ev.bind hr1 ?_
      refine Ev.bind hr2 ?_
      refine Ev.congr (fun k => if_pos rfl) ?_
      refine Ev.congr (fun k => if_pos rfl) ?_
      refine Ev.congr (fun k => if_pos rfl) ?_
      refine Ev.congr (fun k => if_neg (fun e => k1 (Int.ofNat.inj e))) ?_
      exact Ev.congr (fun k => if_neg (fun e => k2 (Int.ofNat.inj e))) livesEnd
end Go.Proofs.YtmeapdchnnpceaaDoor.Pure
end
