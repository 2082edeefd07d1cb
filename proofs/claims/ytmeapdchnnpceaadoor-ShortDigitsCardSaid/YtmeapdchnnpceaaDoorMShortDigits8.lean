/- The law ShortDigits: the walks through its functions and its plain law (part 8). Own texts and the kit's printed words for this seat, without what the law does not use: put together by merge.py (of this work). -/
import Derived.Test.YtmeapdchnnpceaaDoorMShortDigits7
import Derived.Handy
section
namespace Go.Proofs.YtmeapdchnnpceaaDoor.Pure
open Go.RowKit Go.Proofs.YtmeapdchnnpceaaDoorW.PrintWords Go.Proofs.YtmeapdchnnpceaaDoor.Fn
set_option linter.unusedVariables false
set_option linter.unusedSimpArgs false
theorem ff_two (wide : Bool) : 23 ≤ ff wide ∧ ff wide ≤ 52 := by cases wide <;> simp [ff]
theorem rread_j8 (wide : Bool) (k m : Nat) (hk : k ≤ 3000) (hm : m < 2 ^ (ff wide + 1)) :
    Ev (fun n => platenref05_Read.j8 n (ff wide : Int) (-(ll wide : Int)) (ii wide : Int) ((k : Int) - (ll wide : Int)) (m : Int)) ((if m < 2 ^ ff wide then (m : Int) else ((min (ii wide) (k * 2 ^ ff wide + m) : Nat) : Int)), 0) := by
  obtain ⟨hP0, -, -, hP, -⟩ := ff_ww wide
  have hf := ff_two wide
  have hl := ll_two wide
  have hi := ii_lt wide
  have hpw := pow_eq (ff wide) (by omega)
  refine Ev.step (fun n => by simp only [platenref05_Read.j8]; rfl) ?_
  refine Ev.bind hpw ?_
  rw [Nat.pow_succ] at hm
  by_cases c : m < 2 ^ ff wide
  · rw [if_pos c]
    refine Ev.congr (fun n => if_pos (by omega)) (Ev.now _)
  · rw [if_neg c]
    refine Ev.congr (fun n => if_neg (by omega)) ?_
    refine Ev.bind hpw ?_
    refine Ev.bind hpw ?_
    have hkP : k * 2 ^ ff wide ≤ 3000 * 4503599627370496 := Nat.mul_le_mul hk hP
    have e1 : wrap64 (wrap64 ((k : Int) - (ll wide : Int) - -(ll wide : Int)) + 1) = ((k + 1 : Nat) : Int) := by
      rw [wrap_id (x := (k : Int) - (ll wide : Int) - -(ll wide : Int)) (by omega) (by omega), wrap_id (by omega) (by omega)]
      omega
    have e2 : (k + 1) * 2 ^ ff wide = k * 2 ^ ff wide + 2 ^ ff wide := by rw [Nat.add_mul, Nat.one_mul]
    rw [e1]
    generalize 2 ^ ff wide = P at *
    have e3 : ((k + 1 : Nat) : Int) * (P : Int) = (((k + 1) * P : Nat) : Int) := by simp
    rw [u64N (k + 1) (by omega), e3, e2]
    generalize k * P = Q at *
    rw [u64N (Q + P) (by omega), show (((Q + P : Nat) : Int) + (m : Int)) = ((Q + P + m : Nat) : Int) by omega, u64N (Q + P + m) (by omega), show (((Q + P + m : Nat) : Int) - (P : Int)) = ((Q + m : Nat) : Int) by omega, u64N (Q + m) (by omega)]
    refine Ev.congr (fun n => ?_) (Ev.now _)
    by_cases c2 : ii wide < Q + m
    · rw [if_pos (by omega), Nat.min_eq_left (by omega)]
    · rw [if_neg (by omega), Nat.min_eq_right (by omega)]
theorem P_le_ii (wide : Bool) : 2 ^ ff wide ≤ ii wide := by cases wide <;> decide
theorem rread_j7 (wide : Bool) (k m : Nat) (hk : k ≤ 2900) (hm : m ≤ 2 ^ (ff wide + 1)) (h : 2 ^ ff wide ≤ m ∨ k = 0) :
    Ev (fun n => platenref05_Read.j7 n (ff wide : Int) (-(ll wide : Int)) (ii wide : Int) ((k : Int) - (ll wide : Int)) (m : Int)) (((min (ii wide) (k * 2 ^ ff wide + m) : Nat) : Int), 0) := by
  obtain ⟨hP0, -, -, hP, -⟩ := ff_ww wide
  have hf := ff_two wide
  have hl := ll_two wide
  have hPi := P_le_ii wide
  refine Ev.step (fun n => by simp only [platenref05_Read.j7]; rfl) ?_
  rw [show wrap64 ((ff wide : Int) + 1) = ((ff wide + 1 : Nat) : Int) by rw [wrap_id (by omega) (by omega)]; omega]
  refine Ev.bind (pow_eq (ff wide + 1) (by omega)) ?_
  by_cases c : m = 2 ^ (ff wide + 1)
  · refine Ev.congr (fun n => if_pos (by omega)) ?_
    have e1 : wrap64 ((k : Int) - (ll wide : Int) + 1) = ((k + 1 : Nat) : Int) - (ll wide : Int) := by rw [wrap_id (by omega) (by omega)]; omega
    have e2 : m / 2 = 2 ^ ff wide := by rw [c, Nat.pow_succ]; omega
    rw [e1, show (2 : Int) = ((2 : Nat) : Int) from rfl, tdivN, e2, u64N _ (by omega)]
    have := rread_j8 wide (k + 1) (2 ^ ff wide) (by omega) (by rw [Nat.pow_succ]; omega)
    rw [if_neg (Nat.lt_irrefl _)] at this
    rw [c, Nat.pow_succ]
    rw [Nat.add_mul, Nat.one_mul] at this
    rw [show k * 2 ^ ff wide + 2 ^ ff wide * 2 = k * 2 ^ ff wide + 2 ^ ff wide + 2 ^ ff wide by omega]
    exact this
  · refine Ev.congr (fun n => if_neg (by omega)) ?_
    have := rread_j8 wide k m (by omega) (by omega)
    by_cases c2 : m < 2 ^ ff wide
    · rw [if_pos c2] at this
      have hk0 : k = 0 := h.resolve_left (by omega)
      rw [hk0, Nat.zero_mul, Nat.zero_add, Nat.min_eq_right (by omega)]
      rw [hk0] at this
      exact this
    · rw [if_neg c2] at this
      exact this
theorem rread_j5 (wide : Bool) {a b k K K' X : Nat} {xs ys : List Int} (hx : Nm a K xs) (hy : Nm b K' ys) (hK : K ≤ 9000) (hK' : K' ≤ 9000) (hb : 0 < b) (hk : k ≤ 2900)
    (hlt : a < b * 2 ^ (ff wide + 1)) (hge : k = 0 ∨ b * 2 ^ ff wide ≤ a) (hE : a * 2 ^ k * (2 * CC) = X * b) :
    Ev (fun n => platenref05_Read.j5 n (ff wide : Int) (-(ll wide : Int)) (ii wide : Int) xs ys ((k : Int) - (ll wide : Int))) ((rdX wide X : Int), 0) := by
  have hf := ff_two wide
  have hC := CC_pos
  have hat := fun p => @rd_at wide X p
  have hbg := @rd_big wide X
  generalize CC = C at *
  obtain ⟨hP0, -, -, hP, -⟩ := ff_ww wide
  have hm1 : a / b < 2 ^ (ff wide + 1) := (Nat.div_lt_iff_lt_mul hb).2 (by rw [Nat.mul_comm]; exact hlt)
  have hm2 : 2 ^ ff wide ≤ a / b ∨ k = 0 := hge.symm.imp (fun h => (Nat.le_div_iff_mul_le hb).2 (by rw [Nat.mul_comm]; exact h)) id
  have hP2 : 2 ^ (ff wide + 1) ≤ 9007199254740992 := by rw [Nat.pow_succ]; omega
  have hw : wrap64 ((ff wide : Int) + 2) = ((ff wide + 2 : Nat) : Int) := by rw [wrap_id (by omega) (by omega)]; omega
  obtain ⟨zs, d1, d2⟩ := divide_ev (ff wide + 2) hx hy hb (Nat.le_trans hK (by decide)) (Nat.le_trans hK' (by decide)) (Nat.le_add_left 1 _) (Nat.add_le_add_right hf.2 2) (by
    have : 2 ^ (ff wide + 1) ≤ 2 ^ (ff wide + 2) := Nat.pow_le_pow_right (by omega) (by omega)
    exact Nat.lt_of_lt_of_le hlt (Nat.mul_le_mul_left _ this)) (by omega)
  obtain ⟨ts, t1, t2⟩ := times2_ev d2 (by omega)
  have hdm := Nat.div_add_mod a b
  have hml := Nat.mod_lt a hb
  -- the floor
  obtain ⟨m, hmm⟩ : ∃ m, a / b = m := ⟨_, rfl⟩
  obtain ⟨r, hrr⟩ : ∃ r, a % b = r := ⟨_, rfl⟩
  rw [hmm] at hm1 hm2 d1 hdm
  rw [hrr] at t2 hdm hml
  have w0 : fW (ff wide) (k * 2 ^ ff wide + m) = m * 2 ^ k := fW_at (by omega) hm2
  have w1 : fW (ff wide) (k * 2 ^ ff wide + m + 1) = (m + 1) * 2 ^ k := by rw [Nat.add_assoc]; exact fW_at (by omega) (hm2.imp (fun h => by omega) id)
  have h2k : 0 < 2 ^ k := Nat.pow_pos (by omega)
  -- everything times b, in multiples of T = 2^k C
  obtain ⟨T, hT⟩ : ∃ T, 2 ^ k * C = T := ⟨_, rfl⟩
  have hT0 : 0 < T := by rw [← hT]; exact Nat.mul_pos h2k hC
  have hXb : X * b = 2 * a * T := by rw [← hE, ← hT]; simp only [Nat.mul_assoc, Nat.mul_comm, Nat.mul_left_comm]
  have f0 : m * 2 ^ k * (2 * C) = 2 * m * T := by rw [← hT]; simp only [Nat.mul_assoc, Nat.mul_comm, Nat.mul_left_comm]
  have f1 : (m + 1) * 2 ^ k * (2 * C) = 2 * (m + 1) * T := by rw [← hT]; simp only [Nat.mul_assoc, Nat.mul_comm, Nat.mul_left_comm]
  have f2 : (m * 2 ^ k + (m + 1) * 2 ^ k) * C = (2 * m + 1) * T := by
    rw [← hT, ← Nat.add_mul, show m + (m + 1) = 2 * m + 1 by omega]; simp only [Nat.mul_assoc]
  have le_b : ∀ u : Nat, u * T ≤ X ↔ u * b ≤ 2 * a := by
    intro u
    rw [← Nat.mul_le_mul_right_iff hb, hXb, show u * T * b = u * b * T by rw [Nat.mul_assoc, Nat.mul_comm T, Nat.mul_assoc], Nat.mul_le_mul_right_iff hT0]
  have g0 : m * 2 ^ k * (2 * C) ≤ X := by rw [f0, le_b, Nat.mul_assoc, Nat.mul_comm m b]; omega
  have g1 : X < (m + 1) * 2 ^ k * (2 * C) := by
    rw [f1]
    refine Nat.lt_of_not_le fun h => ?_
    have := (le_b _).1 h
    rw [Nat.mul_assoc, Nat.add_mul, Nat.one_mul, Nat.mul_comm m b] at this
    omega
  have up_lt : (m * 2 ^ k + (m + 1) * 2 ^ k) * C < X ↔ b < 2 * r := by
    have h1 := le_b (2 * m + 1)
    have e : (2 * m + 1) * b = 2 * (b * m) + b := by rw [Nat.add_mul, Nat.one_mul, Nat.mul_assoc, Nat.mul_comm m b]
    rw [f2]
    constructor
    · intro h
      have h3 : (2 * m + 1) * b ≠ 2 * a := by
        intro e2
        have : (2 * m + 1) * T * b = X * b := by rw [hXb, ← e2, Nat.mul_assoc, Nat.mul_comm T, Nat.mul_assoc]
        have := Nat.eq_of_mul_eq_mul_right hb this
        omega
      have h2 := h1.1 (Nat.le_of_lt h)
      omega
    · intro h
      refine Nat.lt_of_le_of_ne (h1.2 (by omega)) fun e2 => ?_
      have : (2 * m + 1) * T * b = X * b := by rw [e2]
      rw [hXb, show (2 * m + 1) * T * b = (2 * m + 1) * b * T by rw [Nat.mul_assoc, Nat.mul_comm T, Nat.mul_assoc]] at this
      have := Nat.eq_of_mul_eq_mul_right hT0 this
      omega
  have up_eq : X = (m * 2 ^ k + (m + 1) * 2 ^ k) * C ↔ b = 2 * r := by
    have e : (2 * m + 1) * b = 2 * (b * m) + b := by rw [Nat.add_mul, Nat.one_mul, Nat.mul_assoc, Nat.mul_comm m b]
    rw [f2]
    constructor
    · intro h
      have : (2 * m + 1) * T * b = X * b := by rw [h]
      rw [hXb, show (2 * m + 1) * T * b = (2 * m + 1) * b * T by rw [Nat.mul_assoc, Nat.mul_comm T, Nat.mul_assoc]] at this
      have := Nat.eq_of_mul_eq_mul_right hT0 this
      omega
    · intro h
      have : X * b = (2 * m + 1) * T * b := by rw [hXb, show (2 * m + 1) * T * b = (2 * m + 1) * b * T by rw [Nat.mul_assoc, Nat.mul_comm T, Nat.mul_assoc]]; congr 1; omega
      exact Nat.eq_of_mul_eq_mul_right hb this
  -- what is read
  have hread : (rdX wide X : Nat) = min (ii wide) (k * 2 ^ ff wide + if b < 2 * r ∨ (b = 2 * r ∧ m % 2 = 1) then m + 1 else m) := by
    by_cases c : k * 2 ^ ff wide + m < ii wide
    · have hfl : fFloor (ff wide) (ii wide) X (2 * C) (k * 2 ^ ff wide + m) := ⟨by omega, by rw [w0]; exact g0, fun _ => by rw [w1]; exact g1⟩
      have hpar : (k * 2 ^ ff wide + m) % 2 = m % 2 := by
        obtain ⟨u, hu⟩ : ∃ u, ff wide = u + 1 := ⟨ff wide - 1, (Nat.sub_add_cancel (Nat.le_trans (by decide) hf.1)).symm⟩
        rw [hu, Nat.pow_succ, ← Nat.mul_assoc]
        omega
      rw [hat _ hfl, if_neg (by omega), w0, w1, hpar]
      by_cases c2 : b < 2 * r ∨ (b = 2 * r ∧ m % 2 = 1)
      · rw [if_pos (c2.imp up_lt.2 (fun h => ⟨up_eq.2 h.1, h.2⟩)), if_pos c2, Nat.min_eq_right (by omega)]
        rfl
      · rw [if_neg (fun h => c2 (h.imp up_lt.1 (fun h => ⟨up_eq.1 h.1, h.2⟩))), if_neg c2, Nat.min_eq_right (by omega)]
    · have hbig : fW (ff wide) (ii wide) * (2 * C) ≤ X := Nat.le_trans (Nat.mul_le_mul_right _ (fW_le (Nat.le_of_not_lt c))) (by rw [w0]; exact g0)
      rw [hbg hbig, Nat.min_eq_left]
      split <;> omega
  rw [hread]
  -- the code
  refine Ev.step (fun n => by simp only [platenref05_Read.j5]; rfl) ?_
  rw [hw]
  refine Ev.bind d1 ?_
  refine Ev.bind t1 ?_
  have l1 := less_ev hy t2 (by omega) (by omega)
  have l2 := less_ev t2 hy (by omega) (by omega)
  refine Ev.bind l1 ?_
  have hj6 : ∀ t : Bool, Ev (fun n => platenref05_Read.j6 n (ff wide : Int) (-(ll wide : Int)) (ii wide : Int) ((k : Int) - (ll wide : Int)) (m : Int) t) (((min (ii wide) (k * 2 ^ ff wide + if t = true then m + 1 else m) : Nat) : Int), 0) := by
    intro t
    refine Ev.step (fun n => by simp only [platenref05_Read.j6]; rfl) ?_
    cases t
    · refine Ev.congr (fun n => if_neg (by decide)) ?_
      rw [if_neg (by decide)]
      exact rread_j7 wide k m hk (by omega) hm2
    · refine Ev.congr (fun n => if_pos rfl) ?_
      rw [if_pos rfl, show ((m : Int) + 1) = ((m + 1 : Nat) : Int) by omega, u64N (m + 1) (by omega)]
      exact rread_j7 wide k (m + 1) hk (by omega) (hm2.imp (fun h => by omega) id)
  by_cases c1 : b < 2 * r
  · refine Ev.congr (fun n => if_pos (decide_eq_true c1)) ?_
    have := hj6 true
    rw [if_pos rfl] at this
    rw [if_pos (.inl c1)]
    exact this
  · refine Ev.congr (fun n => if_neg (by rw [decide_eq_false c1]; decide)) ?_
    refine Ev.bind l2 ?_
    by_cases c2 : 2 * r < b
    · refine Ev.congr (fun n => if_pos (decide_eq_true c2)) ?_
      have := hj6 false
      rw [if_neg (by decide)] at this
      rw [if_neg (by omega)]
      exact this
    · refine Ev.congr (fun n => if_neg (by rw [decide_eq_false c2]; decide)) ?_
      have := hj6 (m % 2 == 1 : Bool)
      rw [show (2 : Int) = ((2 : Nat) : Int) from rfl, tmodN, neg_eq wide]
      have e : (if b < 2 * r ∨ (b = 2 * r ∧ m % 2 = 1) then m + 1 else m) = if (m % 2 == 1 : Bool) = true then m + 1 else m := by
        by_cases c3 : m % 2 = 1
        · rw [if_pos (.inr ⟨by omega, c3⟩), if_pos (by simpa using c3)]
        · rw [if_neg (by omega), if_neg (by simpa using c3)]
      rw [e]
      exact this
theorem aux_w1 (k L : Nat) (hk : k + 1 ≤ 2900) (hL : L ≤ 1074) : wrap64 (((k + 1 : Nat) : Int) - (L : Int) - 1) = (k : Int) - (L : Int) := by
  rw [wrap_id (by omega) (by omega)]
  omega
theorem aux_c (k L : Nat) : (((k + 1 : Nat) : Int) - (L : Int)) > -(L : Int) := by omega
theorem aux_w2 (k L : Nat) (hk : k ≤ 2900) (hL : L ≤ 1074) : wrap64 ((k : Int) - (L : Int) + 1) = ((k + 1 : Nat) : Int) - (L : Int) := by
  rw [wrap_id (by omega) (by omega)]
  omega
theorem aux_i (i f : Nat) (h : i ≤ f) (hf : f ≤ 52) : wrap64 ((i : Int) + 1) = ((i + 1 : Nat) : Int) := by
  rw [wrap_id (by omega) (by omega)]
  omega
theorem aux_l (K D : Nat) (h : K + 60 + D ≤ 9000) : K + D ≤ 9000 := by omega
theorem aux_l2 (K D f : Nat) (h : K + 60 + D ≤ 9000) (hf : f ≤ 52) : K + (f + 1) + D ≤ 9000 := by omega
theorem aux_l3 (K D i f : Nat) (h : K + 60 + D ≤ 9000) (hf : f ≤ 52) (hi : i ≤ f) : K + i ≤ 50000 := by omega
theorem aux_j (i d f : Nat) (h : i + (d + 1) = f + 1) : i ≤ f ∧ i + 1 + d = f + 1 := by omega
theorem aux_cmp (i f : Nat) : (i ≤ f → (i : Int) ≤ (f : Int)) ∧ ¬ (((f + 1 : Nat) : Int) ≤ (f : Int)) := by omega
theorem step_down {a b k X C : Nat} (h : a * 2 ^ (k + 1) * (2 * C) = X * b) : 2 * a * 2 ^ k * (2 * C) = X * b := by
  rw [← h, Nat.pow_succ]
  simp only [Nat.mul_assoc, Nat.mul_comm, Nat.mul_left_comm]
theorem step_up {a b k X C : Nat} (h : a * 2 ^ k * (2 * C) = X * b) : a * 2 ^ (k + 1) * (2 * C) = X * (2 * b) := by
  have : X * (2 * b) = 2 * (X * b) := by simp only [Nat.mul_assoc, Nat.mul_comm, Nat.mul_left_comm]
  rw [this, ← h, Nat.pow_succ]
  simp only [Nat.mul_assoc, Nat.mul_comm, Nat.mul_left_comm]
theorem rread_l2 (wide : Bool) {b K' K2 X : Nat} {ys zs : List Int} (hy : Nm b K' ys) (hK' : K' ≤ 9000) (hz : Nm (b * 2 ^ (ff wide + 1)) K2 zs) (hK2 : K2 ≤ 9000) (hb : 0 < b) :
    ∀ (k a K : Nat) (xs : List Int), Nm a K xs → K + k ≤ 9000 → k ≤ 2900 → a < b * 2 ^ (ff wide + 1) → a * 2 ^ k * (2 * CC) = X * b →
    Ev (fun n => platenref05_Read.l2 n (ff wide : Int) (-(ll wide : Int)) (ii wide : Int) xs ys zs ((k : Int) - (ll wide : Int))) ((rdX wide X : Int), 0) := by
  have hl := ll_two wide
  intro k
  induction k with
  | zero =>
    intro a K xs hx hK hk hlt hE
    refine Ev.step (f := fun n => platenref05_Read.j5 n (ff wide : Int) (-(ll wide : Int)) (ii wide : Int) xs ys (((0 : Nat) : Int) - (ll wide : Int))) (fun n => ?_) (rread_j5 wide hx hy hK hK' hb hk hlt (.inl rfl) hE)
    simp only [platenref05_Read.l2]
    rw [if_neg (by omega)]
  | succ k ih =>
    intro a K xs hx hK hk hlt hE
    obtain ⟨ts, t1, t2⟩ := times2_ev hx (Nat.le_trans (Nat.le_add_right K (k + 1)) (Nat.le_trans hK (by decide)))
    have hl := less_ev t2 hz (Nat.le_trans (show K + 1 ≤ 9000 from Nat.le_trans (Nat.add_le_add_left (Nat.le_add_left 1 k) K) hK) (by decide)) (Nat.le_trans hK2 (by decide))
    have hw := aux_w1 k (ll wide) hk (ll_two wide).2
    have hcond := aux_c k (ll wide)
    refine Ev.step (f := fun n => (platenref04_Times.f n xs 2).bind fun t => (platenref05_less.f n t zs).bind fun c => if c = true then platenref05_Read.l2 n (ff wide : Int) (-(ll wide : Int)) (ii wide : Int) t ys zs ((k : Int) - (ll wide : Int)) else platenref05_Read.j5 n (ff wide : Int) (-(ll wide : Int)) (ii wide : Int) xs ys (((k + 1 : Nat) : Int) - (ll wide : Int))) (fun n => ?_) ?_
    · simp only [platenref05_Read.l2]
      rw [if_pos hcond, hw]
    · refine Ev.bind t1 ?_
      refine Ev.bind hl ?_
      by_cases c : 2 * a < b * 2 ^ (ff wide + 1)
      · refine Ev.congr (fun n => if_pos (decide_eq_true c)) ?_
        exact ih (2 * a) (K + 1) ts t2 (by rw [Nat.add_assoc, Nat.add_comm 1 k]; exact hK) (Nat.le_trans (Nat.le_succ k) hk) c (step_down hE)
      · refine Ev.congr (fun n => if_neg (by rw [decide_eq_false c]; decide)) ?_
        refine rread_j5 wide hx hy (Nat.le_trans (Nat.le_add_right K (k + 1)) hK) hK' hb hk hlt (.inr ?_) hE
        have h3 := Nat.le_of_not_lt c
        rw [Nat.pow_succ, ← Nat.mul_assoc, Nat.mul_comm _ 2] at h3
        exact Nat.le_of_mul_le_mul_left h3 (by decide)
theorem rread_l1 (wide : Bool) {a K X : Nat} {xs : List Int} (hx : Nm a K xs) (hK : K ≤ 5000) :
    ∀ (d k b K' K2 : Nat) (ys zs : List Int), Nm b K' ys → K' + d ≤ 9000 → Nm (b * 2 ^ (ff wide + 1)) K2 zs → K2 + d ≤ 9000 → 0 < b → k + d ≤ 2900 → a < b * 2 ^ (ff wide + 1) * 2 ^ d → a * 2 ^ k * (2 * CC) = X * b →
    Ev (fun n => platenref05_Read.l1 n (ff wide : Int) (-(ll wide : Int)) (ii wide : Int) xs ys zs ((k : Int) - (ll wide : Int))) ((rdX wide X : Int), 0) := by
  intro d
  induction d with
  | zero =>
    intro k b K' K2 ys zs hy hK' hz hK2 hb hk hlt hE
    rw [Nat.pow_zero, Nat.mul_one] at hlt
    have hl := less_ev hx hz (Nat.le_trans hK (by decide)) (Nat.le_trans hK2 (by decide))
    rw [decide_eq_true hlt] at hl
    refine Ev.step (fun n => by simp only [platenref05_Read.l1]; rfl) ?_
    refine Ev.bind hl ?_
    refine Ev.congr (fun n => if_pos rfl) ?_
    exact rread_l2 wide hy hK' hz hK2 hb k a K xs hx (Nat.le_trans (Nat.add_le_add hK hk) (by decide)) hk hlt hE
  | succ d ih =>
    intro k b K' K2 ys zs hy hK' hz hK2 hb hk hlt hE
    have hl := less_ev hx hz (Nat.le_trans hK (by decide)) (Nat.le_trans (Nat.le_add_right K2 (d + 1)) (Nat.le_trans hK2 (by decide)))
    refine Ev.step (fun n => by simp only [platenref05_Read.l1]; rfl) ?_
    refine Ev.bind hl ?_
    by_cases c : a < b * 2 ^ (ff wide + 1)
    · refine Ev.congr (fun n => if_pos (decide_eq_true c)) ?_
      exact rread_l2 wide hy (Nat.le_trans (Nat.le_add_right K' (d + 1)) hK') hz (Nat.le_trans (Nat.le_add_right K2 (d + 1)) hK2) hb k a K xs hx (Nat.le_trans (Nat.add_le_add hK (Nat.le_trans (Nat.le_add_right k (d + 1)) hk)) (by decide)) (Nat.le_trans (Nat.le_add_right k (d + 1)) hk) c hE
    · refine Ev.congr (fun n => if_neg (by rw [decide_eq_false c]; decide)) ?_
      obtain ⟨ts, t1, t2⟩ := times2_ev hy (Nat.le_trans (Nat.le_add_right K' (d + 1)) (Nat.le_trans hK' (by decide)))
      obtain ⟨us, u1, u2⟩ := times2_ev hz (Nat.le_trans (Nat.le_add_right K2 (d + 1)) (Nat.le_trans hK2 (by decide)))
      rw [← Nat.mul_assoc] at u2
      refine Ev.bind t1 ?_
      refine Ev.bind u1 ?_
      have hw := aux_w2 k (ll wide) (Nat.le_trans (Nat.le_add_right k (d + 1)) hk) (ll_two wide).2
      rw [hw]
      refine ih (k + 1) (2 * b) (K' + 1) (K2 + 1) ts us t2 (by rw [Nat.add_assoc, Nat.add_comm 1 d]; exact hK') u2 (by rw [Nat.add_assoc, Nat.add_comm 1 d]; exact hK2) (Nat.mul_pos (by decide) hb) (by rw [Nat.add_assoc, Nat.add_comm 1 d]; exact hk) ?_ (step_up hE)
      rw [Nat.pow_succ 2 d, ← Nat.mul_assoc, Nat.mul_comm _ 2, ← Nat.mul_assoc, ← Nat.mul_assoc] at hlt
      exact hlt
theorem rread_l0 (wide : Bool) {a b K K' X D : Nat} {xs ys : List Int} (hx : Nm a K xs) (hK : K ≤ 5000) (hy : Nm b K' ys) (hb : 0 < b) (hD : K' + 60 + D ≤ 9000) (hk : ll wide + D ≤ 2900)
    (hlt : a < b * 2 ^ (ff wide + 1) * 2 ^ D) (hE : a * 2 ^ ll wide * (2 * CC) = X * b) :
    ∀ (d i : Nat) (zs : List Int), i + d = ff wide + 1 → Nm (b * 2 ^ i) (K' + i) zs →
    Ev (fun n => platenref05_Read.l0 n (ff wide : Int) (-(ll wide : Int)) (ii wide : Int) xs ys zs (i : Int)) ((rdX wide X : Int), 0) := by
  intro d
  induction d with
  | zero =>
    intro i zs hi hz
    have hf := ff_two wide
    obtain rfl : i = ff wide + 1 := hi
    have h1 := rread_l1 wide hx hK D (ll wide) b K' (K' + (ff wide + 1)) ys zs hy (aux_l _ _ hD) hz (aux_l2 _ _ _ hD hf.2) hb hk hlt hE
    rw [Int.sub_self] at h1
    refine Ev.step (fun n => ?_) h1
    simp only [platenref05_Read.l0]
    rw [if_neg (aux_cmp 0 _).2]
  | succ d ih =>
    intro i zs hi hz
    have hf := ff_two wide
    obtain ⟨hif, hi2⟩ := aux_j _ _ _ hi
    obtain ⟨us, u1, u2⟩ := times2_ev hz (aux_l3 _ _ _ _ hD hf.2 hif)
    rw [show 2 * (b * 2 ^ i) = b * 2 ^ (i + 1) by rw [Nat.pow_succ, Nat.mul_comm 2, Nat.mul_assoc], Nat.add_assoc] at u2
    have h1 := ih (i + 1) us hi2 u2
    refine Ev.step (f := fun n => (platenref04_Times.f n zs 2).bind fun t => platenref05_Read.l0 n (ff wide : Int) (-(ll wide : Int)) (ii wide : Int) xs ys t ((i + 1 : Nat) : Int)) (fun n => ?_) (Ev.bind u1 h1)
    simp only [platenref05_Read.l0]
    rw [if_pos ((aux_cmp _ _).1 hif), aux_i i _ hif hf.2]
theorem rread_j1 (wide : Bool) {a b K K' X D : Nat} {xs ys : List Int} (hx : Nm a K xs) (hK : K ≤ 5000) (hy : Nm b K' ys) (hb : 0 < b) (hD : K' + 60 + D ≤ 9000) (hk : ll wide + D ≤ 2900)
    (hlt : a < b * 2 ^ (ff wide + 1) * 2 ^ D) (hE : a * 2 ^ ll wide * (2 * CC) = X * b) :
    Ev (fun n => platenref05_Read.j1 n (ff wide : Int) (-(ll wide : Int)) (ii wide : Int) xs ys) ((rdX wide X : Int), 0) := by
  have h := rread_l0 wide hx hK hy hb hD hk hlt hE (ff wide + 1) 0 ys (Nat.zero_add _) (by rw [Nat.pow_zero, Nat.mul_one]; exact hy)
  refine Ev.step (fun n => ?_) h
  simp only [platenref05_Read.j1, Option.bind_some, List.nil_append, List.length_nil, Nat.zero_add]
  have h3 : ys.length < 140737488355328 := Nat.lt_of_le_of_lt (Nat.le_trans hy.2.2 (Nat.le_trans (Nat.le_add_right K' (60 + D)) (by rw [← Nat.add_assoc]; exact hD))) (by decide)
  rw [if_pos h3]
  rfl
theorem ten_two : (10 : Nat) ^ 400 ≤ 2 ^ 1329 := by decide +kernel
theorem start_lt (wide : Bool) {v n d T D : Nat} (hv : v < 10 ^ n) (hT : T = 400) (hD : D = 1329) (h : n ≤ d + T) : v * 10 ^ 0 < 1 * 10 ^ d * 2 ^ (ff wide + 1) * 2 ^ D := by
  rw [Nat.pow_zero, Nat.mul_one, Nat.one_mul]
  have h1 : v < 10 ^ d * 10 ^ T := by rw [← Nat.pow_add]; exact Nat.lt_of_lt_of_le hv (Nat.pow_le_pow_right (by decide) h)
  have h2 : 10 ^ T ≤ 2 ^ D := by rw [hT, hD]; exact ten_two
  have h3 : 0 < 2 ^ (ff wide + 1) := Nat.pow_pos (by decide)
  have h4 : 10 ^ d * 10 ^ T ≤ 10 ^ d * 2 ^ (ff wide + 1) * 2 ^ D := Nat.mul_le_mul (Nat.le_mul_of_pos_right _ h3) h2
  exact Nat.lt_of_lt_of_le h1 h4
theorem start_lt2 (wide : Bool) {v n z T D : Nat} (hv : v < 10 ^ n) (hT : T = 400) (hD : D = 1329) (h : n + z ≤ T) : v * 10 ^ z < 1 * 10 ^ 0 * 2 ^ (ff wide + 1) * 2 ^ D := by
  rw [Nat.pow_zero, Nat.mul_one, Nat.one_mul]
  have h1 : v * 10 ^ z < 10 ^ T := by
    refine Nat.lt_of_lt_of_le (Nat.mul_lt_mul_of_pos_right hv (Nat.pow_pos (by decide))) ?_
    rw [← Nat.pow_add]; exact Nat.pow_le_pow_right (by decide) h
  have h2 : 10 ^ T ≤ 2 ^ D := by rw [hT, hD]; exact ten_two
  have h3 : 0 < 2 ^ (ff wide + 1) := Nat.pow_pos (by decide)
  exact Nat.lt_of_lt_of_le h1 (Nat.le_trans h2 (Nat.le_mul_of_pos_left _ h3))
theorem start_E1 (wide : Bool) (v z : Nat) (x : Int) (hx : x = (z : Int)) : v * 10 ^ z * 2 ^ ll wide * (2 * CC) = dX wide v x * (1 * 10 ^ 0) := by
  have e : (x + (vv : Int)).toNat = z + vv := by rw [hx]; omega
  unfold dX uu
  rw [e, Nat.pow_zero, Nat.pow_add, Nat.pow_succ]
  unfold CC
  generalize 10 ^ vv = C
  generalize 2 ^ ll wide = L
  simp only [Nat.mul_assoc, Nat.mul_comm, Nat.mul_left_comm, Nat.mul_one, Nat.one_mul]
theorem start_E2 (wide : Bool) (v d : Nat) (x : Int) (hx : x = -(d : Int)) (hd : d ≤ vv) : v * 10 ^ 0 * 2 ^ ll wide * (2 * CC) = dX wide v x * (1 * 10 ^ d) := by
  obtain ⟨u, hu⟩ : ∃ u, vv = u + d := ⟨vv - d, by omega⟩
  have e : (x + (vv : Int)).toNat = u := by rw [hx, hu]; omega
  unfold dX uu CC
  rw [e, Nat.pow_zero, hu, Nat.pow_add, Nat.pow_succ]
  generalize 10 ^ u = C
  generalize 2 ^ ll wide = L
  simp only [Nat.mul_assoc, Nat.mul_comm, Nat.mul_left_comm, Nat.mul_one, Nat.one_mul]
theorem allD_one : AllD [49] := by
  intro c hc
  obtain rfl : c = 49 := by simpa using hc
  decide
theorem val_one : val [49] = 1 := rfl
theorem rread_j0 (wide : Bool) {l : List UInt8} {q : Int} (hf : InForm l q) (hlen : l.length ≤ 2000) (hq1 : -7000 ≤ q) (hq2 : q ≤ 5000) (c : Bool) (hc : c = decide (l = [] ∨ q < -400)) :
    Ev (fun n => platenref05_Read.j0 n (ff wide : Int) (-(ll wide : Int)) (ii wide : Int) c (S l) q) ((rdX wide (dX wide (val l) (q - l.length)) : Int), 0) := by
  have hll := ll_two wide
  obtain ⟨D, hD⟩ : ∃ D : Nat, D = 1329 := ⟨_, rfl⟩
  refine Ev.step (fun n => by simp only [platenref05_Read.j0]; rfl) ?_
  by_cases c1 : l = [] ∨ q < -400
  · rw [hc, decide_eq_true c1]
    refine Ev.congr (fun n => if_pos rfl) ?_
    have h0 : dX wide (val l) (q - l.length) ≤ CC := by
      by_cases c2 : q < -400
      · exact dX_tiny wide hf c2 hq1 hlen
      · have e := c1.resolve_right c2
        unfold dX
        rw [e, val_nil, Nat.zero_mul, Nat.zero_mul]
        exact Nat.zero_le _
    rw [rd_tiny wide h0]
    exact Ev.now _
  · rw [hc, decide_eq_false c1]
    refine Ev.congr (fun n => if_neg (by decide)) ?_
    have hq3 : -400 ≤ q := by omega
    by_cases c2 : q > 400
    · refine Ev.congr (fun n => if_pos c2) ?_
      rw [rd_big wide (dX_big wide hf c2 hlen)]
      exact Ev.now _
    · refine Ev.congr (fun n => if_neg c2) ?_
      obtain ⟨a0, a1, a2⟩ := whole_ev hf.1 0 (by omega)
      obtain ⟨b0, b1, b2⟩ := whole_ev allD_one 0 (by simp)
      refine Ev.bind a1 ?_
      refine Ev.bind (g := fun n => platenref05_whole.f n (⟨#[49]⟩ : ByteArray) 0) b1 ?_
      rw [size_S]
      by_cases c3 : (l.length : Int) < q
      · refine Ev.congr (fun n => if_pos c3) ?_
        obtain ⟨z, hz⟩ : ∃ z : Nat, q - l.length = (z : Int) := ⟨(q - l.length).toNat, by omega⟩
        obtain ⟨d0, d1, d2⟩ := whole_ev hf.1 z (by omega)
        rw [wrap_id (by omega) (by omega), hz]
        refine Ev.bind d1 ?_
        rw [val_one] at b2
        exact rread_j1 wide d2 (by omega) b2 (by decide) (D := D) (by simp; omega) (by omega) (start_lt2 wide (val_lt hf.1) rfl hD (by omega)) (start_E1 wide _ z _ rfl)
      · refine Ev.congr (fun n => if_neg c3) ?_
        obtain ⟨d, hd⟩ : ∃ d : Nat, (l.length : Int) - q = (d : Int) := ⟨((l.length : Int) - q).toNat, by omega⟩
        obtain ⟨d0, d1, d2⟩ := whole_ev allD_one d (by simp; omega)
        rw [wrap_id (by omega) (by omega), hd]
        refine Ev.bind (g := fun n => platenref05_whole.f n (⟨#[49]⟩ : ByteArray) (d : Int)) d1 ?_
        rw [val_one] at d2
        have hx : q - l.length = -(d : Int) := by omega
        rw [hx]
        have hv := vv_eq
        exact rread_j1 wide a2 (by omega) d2 (by rw [Nat.one_mul]; exact Nat.pow_pos (by decide)) (D := D) (by simp; omega) (by omega) (start_lt wide (val_lt hf.1) rfl hD (by omega)) (start_E2 wide _ d _ rfl (by omega))
theorem rread_eq (wide : Bool) (s : ByteArray) (p0 : Int) : Ev (fun k => platenref05_Read.f k s p0 (szB wide)) (rdS wide s p0) := by
  obtain ⟨hP0, hW0, hW, hP, -, hI, -⟩ := ff_ww wide
  have hii := ii_lt wide
  unfold platenref05_Read.f
  rw [sized_eq, shape_eq]
  simp only [Option.bind_some, if_true]
  refine Ev.bind (rNorm_eq s p0) ?_
  unfold rdS
  rcases normS_cases s p0 with ⟨e, h1, h2, _⟩ | ⟨l, q, h1, hf, hlen, hq1, hq2, _, _⟩
  · rw [h1, if_neg h2]
    exact Ev.congr (fun k => if_neg h2) (Ev.now _)
  · rw [h1, if_pos rfl]
    refine Ev.congr (fun k => if_pos rfl) ?_
    simp only [L_S]
    refine Ev.bind (pow_eq (ww wide) (ww_le wide)) ?_
    refine Ev.bind (pow_eq (ff wide) (Nat.le_trans (ff_lt wide) (by decide))) ?_
    have e1 : IntKind.u64.wrap (IntKind.u64.wrap (((2 ^ ww wide : Nat) : Int) - 1) * ((2 ^ ff wide : Nat) : Int)) = (ii wide : Int) := by
      have hI2 := hI
      generalize 2 ^ ww wide = W at *
      generalize 2 ^ ff wide = P at *
      rw [show ((W : Int) - 1) = ((W - 1 : Nat) : Int) by omega, u64N (W - 1) (by omega), show (((W - 1 : Nat) : Int) * (P : Int)) = (((W - 1) * P : Nat) : Int) by simp, ← hI2, u64N _ (by omega)]
    rw [e1]
    have hSl : ((S l).toList = ([] : List UInt8)) ↔ l = [] := by rw [toList_L, L_S]
    by_cases c : l = []
    · refine Ev.congr (fun k => if_pos (hSl.2 c)) ?_
      exact rread_j0 wide hf hlen hq1 hq2 true (decide_eq_true (.inl c)).symm
    · refine Ev.congr (fun k => if_neg (fun h => c (hSl.1 h))) ?_
      exact rread_j0 wide hf hlen hq1 hq2 (decide (q < -400)) (decide_eq_decide.2 (by simp [c]))
end Go.Proofs.YtmeapdchnnpceaaDoor.Pure
end
section
namespace Go.Proofs.YtmeapdchnnpceaaDoor.Pure
open Go.RowKit Go.Proofs.YtmeapdchnnpceaaDoorW.PrintWords Go.Proofs.YtmeapdchnnpceaaDoor.Fn
set_option linter.unusedVariables false
set_option linter.unusedSimpArgs false
def loX (wide : Bool) (p : Nat) : Nat := (fW (ff wide) (p - 1) + fW (ff wide) p) * CC
def hiX (wide : Bool) (p : Nat) : Nat := (fW (ff wide) p + fW (ff wide) (p + 1)) * CC
def inX (wide : Bool) (p X : Nat) : Prop := (loX wide p < X ∧ X < hiX wide p) ∨ (p % 2 = 0 ∧ loX wide p ≤ X ∧ X ≤ hiX wide p)
theorem mid_between {u v C : Nat} (h : u < v) (hC : 0 < C) : u * (2 * C) < (u + v) * C ∧ (u + v) * C < v * (2 * C) := by
  have e1 : u * (2 * C) = u * C + u * C := by rw [Nat.mul_left_comm]; omega
  have e2 : v * (2 * C) = v * C + v * C := by rw [Nat.mul_left_comm]; omega
  have h3 : u * C < v * C := Nat.mul_lt_mul_of_pos_right h hC
  rw [e1, e2, Nat.add_mul]
  omega
theorem inX_iff (wide : Bool) {p : Nat} (hp : 0 < p) (hi : p < ii wide) (X : Nat) : inX wide p X ↔ rdX wide X = p := by
  have hC := CC_pos
  obtain ⟨a, rfl⟩ : ∃ a, p = a + 1 := ⟨p - 1, by omega⟩
  have m1 := mid_between (fW_lt (f := ff wide) (Nat.lt_succ_self a)) hC
  have m2 := mid_between (fW_lt (f := ff wide) (Nat.lt_succ_self (a + 1))) hC
  have hat := fun q => @rd_at wide X q
  have hfl := flo_spec wide X
  have hun := fun q (h : fFloor (ff wide) (ii wide) X (2 * CC) q) => fFloor_one (by omega) hfl h
  unfold inX loX hiX
  rw [Nat.add_sub_cancel]
  simp only [Nat.succ_eq_add_one] at m1 m2
  constructor
  · intro h
    by_cases c : fW (ff wide) (a + 1) * (2 * CC) ≤ X
    · have hf : fFloor (ff wide) (ii wide) X (2 * CC) (a + 1) := ⟨by omega, c, fun _ => by omega⟩
      rw [hat _ hf, if_neg (by omega), if_neg (by omega)]
    · have hf : fFloor (ff wide) (ii wide) X (2 * CC) a := ⟨by omega, by omega, fun _ => by omega⟩
      rw [hat _ hf, if_neg (by omega), if_pos (by omega)]
  · intro h
    have hr := hat _ hfl
    rw [h] at hr
    by_cases c1 : flo wide X = ii wide
    · rw [if_pos c1] at hr
      omega
    · rw [if_neg c1] at hr
      obtain ⟨g1, g2, g3⟩ := hfl
      have g3' := g3 (by omega)
      by_cases c2 : X > (fW (ff wide) (flo wide X) + fW (ff wide) (flo wide X + 1)) * CC ∨ (X = (fW (ff wide) (flo wide X) + fW (ff wide) (flo wide X + 1)) * CC ∧ flo wide X % 2 = 1)
      · rw [if_pos c2] at hr
        have e : flo wide X = a := by omega
        rw [e] at c2 g2 g3'
        omega
      · rw [if_neg c2] at hr
        have e : flo wide X = a + 1 := by omega
        rw [e] at c2 g2 g3'
        omega
theorem fE_pred {f p : Nat} (hp : 0 < p) (h : fM f p ≠ 2 ^ f ∨ fE f p = 0) : fE f (p - 1) = fE f p := by
  obtain ⟨e1, e2⟩ := fOf f p
  have hlt := fM_lt f p
  have h2 := two_pos f
  by_cases c : fE f p = 0
  · rw [c, Nat.zero_mul, Nat.zero_add] at e1
    have := (fParts f 0 (p - 1) (by omega) (.inr rfl)).2
    rw [Nat.zero_mul, Nat.zero_add] at this
    rw [this, c]
  · have h3 := h.resolve_right c
    have h4 := e2.resolve_right c
    have := (fParts f (fE f p) (fM f p - 1) (by omega) (.inl (by omega))).2
    rw [show fE f p * 2 ^ f + (fM f p - 1) = p - 1 by omega] at this
    exact this
theorem fE_pred2 {f p : Nat} (h : fM f p = 2 ^ f) (h2 : fE f p ≠ 0) : fE f (p - 1) + 1 = fE f p := by
  obtain ⟨e1, e2⟩ := fOf f p
  have hp := two_pos f
  obtain ⟨k, hk⟩ := Nat.exists_eq_succ_of_ne_zero h2
  rw [Nat.succ_eq_add_one] at hk
  have := (fParts f k (2 ^ (f + 1) - 1) (by rw [Nat.pow_succ]; omega) (.inl (by rw [Nat.pow_succ]; omega))).2
  rw [hk, h, Nat.add_mul, Nat.one_mul] at e1
  rw [show k * 2 ^ f + (2 ^ (f + 1) - 1) = p - 1 by rw [Nat.pow_succ]; omega] at this
  rw [this, hk]
theorem fW_pred {f p : Nat} (hp : 0 < p) : fW f (p - 1) + 2 ^ fE f (p - 1) = fW f p := by
  have := fW_step f (p - 1)
  rw [Nat.sub_add_cancel hp] at this
  exact this.symm
theorem fM_pos {f p : Nat} (hp : 0 < p) : 0 < fM f p := by
  obtain ⟨e1, e2⟩ := fOf f p
  have h2 := two_pos f
  rcases e2 with h | h
  · omega
  · rw [h, Nat.zero_mul, Nat.zero_add] at e1
    omega
theorem cmp_hi (wide : Bool) (p n : Nat) (x : Int) (hx : -(vv : Int) ≤ x) :
    cmpD (exD (2 * fM (ff wide) p + 1) ((fE (ff wide) p : Int) - (ll wide : Int) - 1)).1 (exD (2 * fM (ff wide) p + 1) ((fE (ff wide) p : Int) - (ll wide : Int) - 1)).2 (decOf n x).1 (decOf n x).2 = cmpN (hiX wide p) (dX wide n x) := by
  unfold exD
  rw [exact_cmp (2 * fM (ff wide) p + 1) n (uu wide) vv _ x (by unfold uu; omega) (by have := ll_le wide; have := vv_eq; unfold uu; omega) hx]
  unfold dX hiX
  congr 1
  have e : ((fE (ff wide) p : Int) - (ll wide : Int) - 1 + (uu wide : Int)).toNat = fE (ff wide) p := by unfold uu; omega
  rw [e, fW_step]
  unfold fW CC
  congr 1
  rw [Nat.add_mul, Nat.one_mul, Nat.mul_assoc]
  omega
theorem cmp_lo1 (wide : Bool) {p : Nat} (hp : 0 < p) (h : fM (ff wide) p ≠ 2 ^ ff wide ∨ fE (ff wide) p = 0) (n : Nat) (x : Int) (hx : -(vv : Int) ≤ x) :
    cmpD (exD (2 * fM (ff wide) p - 1) ((fE (ff wide) p : Int) - (ll wide : Int) - 1)).1 (exD (2 * fM (ff wide) p - 1) ((fE (ff wide) p : Int) - (ll wide : Int) - 1)).2 (decOf n x).1 (decOf n x).2 = cmpN (loX wide p) (dX wide n x) := by
  have h1 := fW_pred (f := ff wide) hp
  have h2 := fM_pos (f := ff wide) hp
  rw [fE_pred hp h] at h1
  unfold exD
  rw [exact_cmp (2 * fM (ff wide) p - 1) n (uu wide) vv _ x (by unfold uu; omega) (by have := ll_le wide; have := vv_eq; unfold uu; omega) hx]
  unfold dX loX
  congr 1
  have e : ((fE (ff wide) p : Int) - (ll wide : Int) - 1 + (uu wide : Int)).toNat = fE (ff wide) p := by unfold uu; omega
  rw [e]
  have h3 : fW (ff wide) p = fM (ff wide) p * 2 ^ fE (ff wide) p := rfl
  have h4 : (2 * fM (ff wide) p - 1) * 2 ^ fE (ff wide) p + 2 ^ fE (ff wide) p = 2 * (fM (ff wide) p * 2 ^ fE (ff wide) p) := by
    rw [← Nat.succ_mul, ← Nat.mul_assoc]
    congr 1
    omega
  unfold CC
  congr 1
  omega
theorem cmp_lo2 (wide : Bool) {p : Nat} (hp : 0 < p) (h : fM (ff wide) p = 2 ^ ff wide) (h0 : fE (ff wide) p ≠ 0) (n : Nat) (x : Int) (hx : -(vv : Int) ≤ x) :
    cmpD (exD (4 * fM (ff wide) p - 1) ((fE (ff wide) p : Int) - (ll wide : Int) - 2)).1 (exD (4 * fM (ff wide) p - 1) ((fE (ff wide) p : Int) - (ll wide : Int) - 2)).2 (decOf n x).1 (decOf n x).2 = cmpN (loX wide p) (dX wide n x) := by
  have h1 := fW_pred (f := ff wide) hp
  have h2 := fM_pos (f := ff wide) hp
  have h5 := fE_pred2 h h0
  obtain ⟨k, hk⟩ : ∃ k, fE (ff wide) (p - 1) = k := ⟨_, rfl⟩
  rw [hk] at h1 h5
  unfold exD
  rw [exact_cmp (4 * fM (ff wide) p - 1) n (uu wide) vv _ x (by unfold uu; omega) (by have := ll_le wide; have := vv_eq; unfold uu; omega) hx]
  unfold dX loX
  congr 1
  have e : ((fE (ff wide) p : Int) - (ll wide : Int) - 2 + (uu wide : Int)).toNat = k := by unfold uu; omega
  rw [e]
  have h3 : fW (ff wide) p = fM (ff wide) p * 2 ^ (k + 1) := by rw [h5]; rfl
  have h4 : (4 * fM (ff wide) p - 1) * 2 ^ k + 2 ^ k = 2 * (fM (ff wide) p * 2 ^ (k + 1)) := by
    rw [← Nat.succ_mul, Nat.pow_succ]
    rw [show (4 * fM (ff wide) p - 1).succ = 4 * fM (ff wide) p by omega]
    rw [Nat.mul_comm (2 ^ k) 2, ← Nat.mul_assoc, ← Nat.mul_assoc]
    congr 1
    omega
  unfold CC
  congr 1
  omega
theorem span_ev {lo hi d : List UInt8 × Int} {L H X : Nat} (wide : Bool) (p : Nat) (ends : Bool) (he : ends = decide (p % 2 = 0)) (hL : L = loX wide p) (hH : H = hiX wide p) (f1 : InForm lo.1 lo.2) (f2 : InForm hi.1 hi.2) (f3 : InForm d.1 d.2)
    (b1 : lo.1.length ≤ 2000 ∧ -5000 ≤ lo.2 ∧ lo.2 ≤ 5000) (b2 : hi.1.length ≤ 2000 ∧ -5000 ≤ hi.2 ∧ hi.2 ≤ 5000) (b3 : d.1.length ≤ 2000 ∧ -5000 ≤ d.2 ∧ d.2 ≤ 5000)
    (c1 : cmpD lo.1 lo.2 d.1 d.2 = cmpN L X) (c2 : cmpD hi.1 hi.2 d.1 d.2 = cmpN H X) (t : Bool) (ht : t = true ↔ inX wide p X) :
    Ev (fun k => short_span_in.f k (S lo.1) lo.2 (S hi.1) hi.2 ends (S d.1) d.2) t := by
  have k1 := cmp_ev f3 f1 b3 b1
  have k2 := cmp_ev f3 f2 b3 b2
  rw [cmpD_swap, c1, ← cmpN_swap] at k1
  rw [cmpD_swap, c2, ← cmpN_swap] at k2
  unfold short_span_in.f
  refine Ev.bind k1 (Ev.bind k2 (Ev.congr (fun k => ?_) (Ev.now _)))
  unfold inX at ht
  rw [← hL, ← hH] at ht
  have p1 := cmpN_pos X L
  have p2 := cmpN_zero X L
  have p3 := cmpN_pos X H
  have p4 := cmpN_zero X H
  generalize cmpN X L = u at *
  generalize cmpN X H = v at *
  have q1 : u ≥ 0 ↔ L ≤ X := by omega
  have q2 : v ≤ 0 ↔ X ≤ H := by omega
  have q3 : v < 0 ↔ X < H := by omega
  have hee : ends = true ↔ p % 2 = 0 := by rw [he]; exact decide_eq_true_iff
  have key : (if u > 0 then (if v < 0 then some true else (if ends = true then (if u ≥ 0 then some (decide (v ≤ 0)) else some false) else some false)) else (if ends = true then (if u ≥ 0 then some (decide (v ≤ 0)) else some false) else some false)) = some (decide ((u > 0 ∧ v < 0) ∨ (ends = true ∧ u ≥ 0 ∧ v ≤ 0))) := by
    by_cases a1 : u > 0
    · rw [if_pos a1]
      by_cases a2 : v < 0
      · rw [if_pos a2, decide_eq_true (.inl ⟨a1, a2⟩)]
      · rw [if_neg a2]
        by_cases a3 : ends = true
        · rw [if_pos a3, if_pos (by omega)]
          congr 1
          exact decide_eq_decide.2 ⟨fun h => .inr ⟨a3, by omega, h⟩, fun h => h.elim (fun h => absurd h.2 a2) (fun h => h.2.2)⟩
        · rw [if_neg a3, decide_eq_false (fun h => h.elim (fun h => a2 h.2) (fun h => a3 h.1))]
    · rw [if_neg a1]
      by_cases a3 : ends = true
      · rw [if_pos a3]
        by_cases a4 : u ≥ 0
        · rw [if_pos a4]
          congr 1
          exact decide_eq_decide.2 ⟨fun h => .inr ⟨a3, a4, h⟩, fun h => h.elim (fun h => absurd h.1 a1) (fun h => h.2.2)⟩
        · rw [if_neg a4, decide_eq_false (fun h => h.elim (fun h => a1 h.1) (fun h => a4 h.2.1))]
      · rw [if_neg a3, decide_eq_false (fun h => h.elim (fun h => a1 h.1) (fun h => a3 h.1))]
  rw [key]
  congr 1
  rw [Bool.eq_iff_iff, ht, decide_eq_true_iff, p1, q3, q1, q2, hee]
end Go.Proofs.YtmeapdchnnpceaaDoor.Pure
end
section
namespace Go.Proofs.YtmeapdchnnpceaaDoor.Fn
open Go.RowKit Go.Proofs.YtmeapdchnnpceaaDoorW.PrintWords Go.Proofs.YtmeapdchnnpceaaDoorW.PrintLast Go.Proofs.YtmeapdchnnpceaaDoorW.PrintMore
attribute [local go_sem] min2_int min_two
set_option linter.unusedVariables false
set_option linter.unusedSimpArgs false
mutual
def short_Shortest.j0 : Nat → Int → Int → Int → Bool → Int → Int → Int → ByteArray → Int → ByteArray → Int → Bool → Option (ByteArray × Int × Int)
 | 0, _, _, _, _, _, _, _, _, _, _, _, _ => none
 | k + 1, x8, x9, x10, x79, x282000, x282001, x282002, x285000, x285001, x285002, x285003, x285004 => if x79 = true then ((bigdec_Exact.f k (IntKind.u64.wrap ((IntKind.u64.wrap (4 * x9)) - 1)) (wrap64 (x10 - 2))).bind fun bt291 => (short_Shortest.j1 k x8 x282000 x282001 x282002 bt291.1 bt291.2.1 x285002 x285003 x285004)) else (short_Shortest.j1 k x8 x282000 x282001 x282002 x285000 x285001 x285002 x285003 x285004)
def short_Shortest.j1 : Nat → Int → Int → Int → Int → ByteArray → Int → ByteArray → Int → Bool → Option (ByteArray × Int × Int)
 | 0, _, _, _, _, _, _, _, _, _ => none
 | k + 1, x8, x282000, x282001, x282002, x285000, x285001, x285002, x285003, x285004 => (short_shape_exact.f k x282000 x282001 x282002 x8).bind fun bt294 => (short_Shortest.l0 k 1 bt294.1 bt294.2 x285000 x285001 x285002 x285003 x285004)
def short_Shortest.l0 : Nat → Int → ByteArray → Int → ByteArray → Int → ByteArray → Int → Bool → Option (ByteArray × Int × Int)
 | 0, _, _, _, _, _, _, _, _ => none
 | k + 1, x14, x297000, x297001, x298000, x298001, x298002, x298003, x298004 => (short_best.f k x297000 x297001 x14 x298000 x298001 x298002 x298003 x298004).bind fun bt298 => (if bt298.2.2 = true then (some (bt298.1, bt298.2.1, 0)) else (short_Shortest.l0 k (wrap64 (x14 + 1)) x297000 x297001 x298000 x298001 x298002 x298003 x298004))
end
def short_Shortest.f (k : Nat) (a0 : Int) (a1 : Int) : Option (ByteArray × Int × Int) := (short_of.f a1).bind fun bt277 => (if bt277.2.2.2 = true then (if 0 ≤ (wrap64 (a1 - 1)) then (if (Go.bits .and .u64 a0 (IntKind.u64.wrap ((shl .u64 1 (wrap64 (a1 - 1))) - 1))) ≥ bt277.2.2.1 then (some ((⟨#[]⟩ : ByteArray), 0, 1)) else ((short_shape_value.f bt277.1 bt277.2.1 bt277.2.2.1 (Go.bits .and .u64 a0 (IntKind.u64.wrap ((shl .u64 1 (wrap64 (a1 - 1))) - 1)))).bind fun bt282 => (if bt282.1 = 0 then (some ((⟨#[]⟩ : ByteArray), 0, 0)) else ((bigdec_Exact.f k (IntKind.u64.wrap ((IntKind.u64.wrap (2 * bt282.1)) + 1)) (wrap64 (bt282.2 - 1))).bind fun bt285 => ((bigdec_Exact.f k (IntKind.u64.wrap ((IntKind.u64.wrap (2 * bt282.1)) - 1)) (wrap64 (bt282.2 - 1))).bind fun bt288 => (if 0 ≤ bt277.1 then (if bt282.1 = (shl .u64 1 bt277.1) then (short_Shortest.j0 k (Go.bits .and .u64 a0 (IntKind.u64.wrap ((shl .u64 1 (wrap64 (a1 - 1))) - 1))) bt282.1 bt282.2 (decide (bt282.2 > bt277.2.1)) bt277.1 bt277.2.1 bt277.2.2.1 bt288.1 bt288.2.1 bt285.1 bt285.2.1 ((Int.tmod bt282.1 2) == 0)) else (short_Shortest.j0 k (Go.bits .and .u64 a0 (IntKind.u64.wrap ((shl .u64 1 (wrap64 (a1 - 1))) - 1))) bt282.1 bt282.2 false bt277.1 bt277.2.1 bt277.2.2.1 bt288.1 bt288.2.1 bt285.1 bt285.2.1 ((Int.tmod bt282.1 2) == 0))) else (none))))))) else (none)) else (some ((⟨#[]⟩ : ByteArray), 0, 1)))
set_option maxHeartbeats 8000000 in
set_option maxRecDepth 100000 in
theorem short_Shortest.calls (k : Nat) (a0 : Int) (a1 : Int) (r1 : ByteArray) (r2 : Int) (r3 : Int) (w : World) (h : short_Shortest.f k a0 a1 = some (r1, r2, r3)) :
  Calls Tryd.prog 18 #[.int .u64 a0, .int .i64 a1] w fun e w' => e = .returned (.tuple #[.agg #[.string r1, .int .i64 r2], .int .i64 r3]) ∧ Below w.heap.size w w' := by
 have hu28 := Tryd.underlying28
 have hu50 := Tryd.underlying50
 have hu70 := Tryd.underlying70
 have HB := Aside0.mk (Below.refl w.heap.size w)
 have H : ((short_of.f a1).bind fun bt277 => (if bt277.2.2.2 = true then (if 0 ≤ (wrap64 (a1 - 1)) then (if (Go.bits .and .u64 a0 (IntKind.u64.wrap ((shl .u64 1 (wrap64 (a1 - 1))) - 1))) ≥ bt277.2.2.1 then (some ((⟨#[]⟩ : ByteArray), 0, 1)) else ((short_shape_value.f bt277.1 bt277.2.1 bt277.2.2.1 (Go.bits .and .u64 a0 (IntKind.u64.wrap ((shl .u64 1 (wrap64 (a1 - 1))) - 1)))).bind fun bt282 => (if bt282.1 = 0 then (some ((⟨#[]⟩ : ByteArray), 0, 0)) else ((bigdec_Exact.f k (IntKind.u64.wrap ((IntKind.u64.wrap (2 * bt282.1)) + 1)) (wrap64 (bt282.2 - 1))).bind fun bt285 => ((bigdec_Exact.f k (IntKind.u64.wrap ((IntKind.u64.wrap (2 * bt282.1)) - 1)) (wrap64 (bt282.2 - 1))).bind fun bt288 => (if 0 ≤ bt277.1 then (if bt282.1 = (shl .u64 1 bt277.1) then (short_Shortest.j0 k (Go.bits .and .u64 a0 (IntKind.u64.wrap ((shl .u64 1 (wrap64 (a1 - 1))) - 1))) bt282.1 bt282.2 (decide (bt282.2 > bt277.2.1)) bt277.1 bt277.2.1 bt277.2.2.1 bt288.1 bt288.2.1 bt285.1 bt285.2.1 ((Int.tmod bt282.1 2) == 0)) else (short_Shortest.j0 k (Go.bits .and .u64 a0 (IntKind.u64.wrap ((shl .u64 1 (wrap64 (a1 - 1))) - 1))) bt282.1 bt282.2 false bt277.1 bt277.2.1 bt277.2.2.1 bt288.1 bt288.2.1 bt285.1 bt285.2.1 ((Int.tmod bt282.1 2) == 0))) else (none))))))) else (none)) else (some ((⟨#[]⟩ : ByteArray), 0, 1)))) = some (r1, r2, r3) := h
 clear h
 replace H := bs H
 obtain ⟨⟨t277, t278, t279, t280⟩, A3, H⟩ := H
 dsimp only at H
 go_enter Tryd.func18, Tryd.ntmps18
 go_upto_if 23 with (first | ((with_reducible refine gate_dst (N := 4) rfl ?_); refine box_event rfl (N := 4) rfl (cs := #[.string (⟨#[]⟩ : ByteArray), .int .i64 0]) (t := 28) gz ?_; intro gb276 hg w4 hbox hb; have GE276 := gN bz hg; have BK276 := Aside0.mk hbox; replace HB := bN bz hb; clear hb hbox hg) | ((with_reducible refine gate_callee (f := 27) rfl ?_); refine goesL_ (some 19) rfl rfl Tryd.func27 (by kernel_rfl) rfl #[.int .i64 a1] rfl lz ?_; (with_reducible refine (short_of.calls a1 t277 t278 t279 t280 _ A3.out).mono ?_); rintro e w5 ⟨rfl, hb⟩; refine ⟨_, rfl, ?_⟩; replace BK276 := kN (g := gb276) (cs := #[.string (⟨#[]⟩ : ByteArray), .int .i64 0]) hb bk; replace HB := bN bz hb; (try clear hb); (try clear hb2); (try clear hk); (try clear hi)) | ((with_reducible refine gate_dst (N := 6) rfl ?_); refine box_event rfl (N := 6) rfl (cs := #[.int .i64 0, .int .i64 0, .int .u64 0]) (t := 50) gz ?_; intro gb281 hg w6 hbox hb; have GE281 := gN bz hg; have NB276_281 := lN (g := gb276) (cs := #[.string (⟨#[]⟩ : ByteArray), .int .i64 0]) hg bk; have NB281_276 := rN (g := gb276) (cs := #[.string (⟨#[]⟩ : ByteArray), .int .i64 0]) hg bk; replace BK276 := kN (g := gb276) (cs := #[.string (⟨#[]⟩ : ByteArray), .int .i64 0]) hb bk; have BK281 := Aside0.mk hbox; replace HB := bN bz hb; clear hb hbox hg; have hnb7 := NB281_276.out; have hnc7 := NB276_281.out; obtain ⟨hcz8_0, hcz8_1, hcz8_2, hfz8_0, hfz8_1, hfz8_2⟩ := cz3 (W := w6) BK281))
 (try simp only [Act.put, List.setIfInBounds_toArray, List.set_cons_zero, List.set_cons_succ])
 by_cases c9 : t280 = true
 ·subst c9
  replace H := hT H
  obtain ⟨ji10, hji10⟩ : ∃ j_ : Int, (wrap64 (a1 - 1)) = j_ := ⟨_, rfl⟩
  (first | rw [hji10] at H | simp only [hji10] at H)
  have hji10w : (IntKind.i64.wrap (a1 - 1)) = ji10 := (i64_w _).trans hji10
  by_cases c11 : 0 ≤ (ji10)
  ·rw [if_pos c11] at H
   have c11b0 := eq_true c11
   have c11b1 : decide (0 ≤ (ji10)) = true := decide_eq_true c11
   clear c11
   obtain ⟨ji12, hji12⟩ : ∃ j_ : Int, (shl .u64 1 (ji10)) = j_ := ⟨_, rfl⟩
   (first | rw [hji12] at H | simp only [hji12] at H)
   have hji12_ : (IntKind.u64.wrap (1 * 2 ^ min (ji10).toNat 64)) = ji12 := hji12
   have hji12z : (ji10) ≤ 64 → (IntKind.u64.wrap (1 * 2 ^ (ji10).toNat)) = ji12 := shl_small hji12
   have hji12u : (IntKind.u64.wrap (2 ^ min (ji10).toNat 64)) = ji12 := by have h_ := hji12_; rw [Int.one_mul] at h_; exact h_
   have hji12v : (ji10) ≤ 64 → (IntKind.u64.wrap (2 ^ (ji10).toNat)) = ji12 := fun hle_ => by have h_ := hji12z hle_; rw [Int.one_mul] at h_; exact h_
   by_cases c13 : (Go.bits .and .u64 a0 (IntKind.u64.wrap ((ji12) - 1))) ≥ t279
   ·rw [if_pos c13] at H
    have c13b0 : decide (t279 ≤ (Go.bits .and .u64 a0 (IntKind.u64.wrap ((ji12) - 1)))) = true := decide_eq_true c13
    clear c13
    (first | rw [c13b0] | (simp only [i64_w, i32_w]; rw [c13b0]) | skip)
    simp only [Option.some.injEq, Prod.mk.injEq] at H
    obtain ⟨rfl, rfl, rfl⟩ := H
    have hnb14 := NB281_276.out
    have hnc14 := NB276_281.out
    obtain ⟨hcz15_0, hcz15_1, hcz15_2, hfz15_0, hfz15_1, hfz15_2⟩ := cz3 (W := w6) BK281
    obtain ⟨hcz16_0, hcz16_1, hfz16_0, hfz16_1⟩ := cz2 (W := w6) BK276
    go_wp2
    refine bodyPost_ret (results_ct rfl _ _ gb276 28 #[.string (⟨#[]⟩ : ByteArray), .int .i64 0] (0, 0) _ rfl bk Tryd.underlying28 rfl (by kernel_rfl)) rfl ?_
    exact ⟨by first | rfl | (simp [errW_none, errW_some] <;> rfl) | (simp only [← hji10, ← hji12]; first | rfl | (simp [errW_none, errW_some] <;> rfl)) | (simp [*, errW_none, errW_some] <;> rfl), bz⟩
   ·rw [if_neg c13] at H
    have c13b0 : decide (t279 ≤ (Go.bits .and .u64 a0 (IntKind.u64.wrap ((ji12) - 1)))) = false := decide_eq_false c13
    clear c13
    (first | rw [c13b0] | (simp only [i64_w, i32_w]; rw [c13b0]) | skip)
    replace H := bs H
    obtain ⟨⟨t282, t283⟩, A17, H⟩ := H
    dsimp only at H
    have hnb18 := NB281_276.out
    have hnc18 := NB276_281.out
    obtain ⟨hcz19_0, hcz19_1, hcz19_2, hfz19_0, hfz19_1, hfz19_2⟩ := cz3 (W := w6) BK281
    go_upto_if 43 with (first | ((with_reducible refine gate_callee (f := 28) rfl ?_); refine goesL_ (some 39) rfl rfl Tryd.func28 (by kernel_rfl) rfl #[.agg #[.int .i64 t277, .int .i64 t278, .int .u64 t279], .int .u64 (Go.bits .and .u64 a0 (IntKind.u64.wrap ((ji12) - 1)))] rfl (by (try simp only [List.map_toArray, List.map_cons, List.map_nil]); first | done | (simp only [hji12]; rfl) | rfl | (simp only [List.length_drop, List.length_take]; rfl)) ?_; (with_reducible refine (short_shape_value.calls t277 t278 t279 (Go.bits .and .u64 a0 (IntKind.u64.wrap ((ji12) - 1))) t282 t283 _ A17.out).mono ?_); rintro e w20 ⟨rfl, hb⟩; refine ⟨_, rfl, ?_⟩; replace BK276 := kN (g := gb276) (cs := #[.string (⟨#[]⟩ : ByteArray), .int .i64 0]) hb bk; replace BK281 := kN (g := gb281) (cs := #[.int .i64 t277, .int .i64 t278, .int .u64 t279]) hb bk; replace HB := bN bz hb; (try clear hb); (try clear hb2); (try clear hk); (try clear hi)))
    (try simp only [Act.put, List.setIfInBounds_toArray, List.set_cons_zero, List.set_cons_succ])
    by_cases c21 : t282 = 0
    ·rw [if_pos c21] at H
     obtain ⟨c21b0, c21b1⟩ := eT c21
     clear c21
     try first | rw [c21b0] | rw [c21b1]
     simp only [Option.some.injEq, Prod.mk.injEq] at H
     obtain ⟨rfl, rfl, rfl⟩ := H
     have hnb22 := NB276_281.out
     have hnc22 := NB281_276.out
     obtain ⟨hcz23_0, hcz23_1, hfz23_0, hfz23_1⟩ := cz2 (W := w20) BK276
     go_wp2
     refine bodyPost_ret (results_ct rfl _ _ gb276 28 #[.string (⟨#[]⟩ : ByteArray), .int .i64 0] (0, 0) _ rfl bk Tryd.underlying28 rfl (by kernel_rfl)) rfl ?_
     exact ⟨by first | rfl | (simp [errW_none, errW_some] <;> rfl) | (simp only [← hji10, ← hji12]; first | rfl | (simp [errW_none, errW_some] <;> rfl)) | (simp [*, errW_none, errW_some] <;> rfl), bz⟩
    ·rw [if_neg c21] at H
     obtain ⟨c21b0, c21b1⟩ := eF c21
     try first | rw [c21b0] | rw [c21b1]
     replace H := bs H
     obtain ⟨⟨t285, t286, t287⟩, A24, H⟩ := H
     dsimp only at H
     replace H := bs H
     obtain ⟨⟨t288, t289, t290⟩, A25, H⟩ := H
     dsimp only at H
     have HC26 := Aside0.mk H
     clear H
     go_upto_region 13 with (first | ((with_reducible refine gate_dst (N := 11) rfl ?_); refine box_event rfl (N := 11) rfl (cs := #[.string (⟨#[]⟩ : ByteArray), .int .i64 0, .string (⟨#[]⟩ : ByteArray), .int .i64 0, .bool false]) (t := 70) gz ?_; intro gb284 hg w27 hbox hb; have GE284 := gN bz hg; have NB276_284 := lN (g := gb276) (cs := #[.string (⟨#[]⟩ : ByteArray), .int .i64 0]) hg bk; have NB284_276 := rN (g := gb276) (cs := #[.string (⟨#[]⟩ : ByteArray), .int .i64 0]) hg bk; have NB281_284 := lN (g := gb281) (cs := #[.int .i64 t277, .int .i64 t278, .int .u64 t279]) hg bk; have NB284_281 := rN (g := gb281) (cs := #[.int .i64 t277, .int .i64 t278, .int .u64 t279]) hg bk; replace BK276 := kN (g := gb276) (cs := #[.string (⟨#[]⟩ : ByteArray), .int .i64 0]) hb bk; replace BK281 := kN (g := gb281) (cs := #[.int .i64 t277, .int .i64 t278, .int .u64 t279]) hb bk; have BK284 := Aside0.mk hbox; replace HB := bN bz hb; clear hb hbox hg; have hnb28 := NB284_276.out; have hnc28 := NB276_284.out; have hnb29 := NB284_281.out; have hnc29 := NB281_284.out; obtain ⟨hcz30_0, hcz30_1, hcz30_2, hcz30_3, hcz30_4, hfz30_0, hfz30_1, hfz30_2, hfz30_3, hfz30_4⟩ := cz5 (W := w27) BK284) | ((with_reducible refine gate_callee (f := 25) rfl ?_); refine goesL_ (some 55) rfl rfl Tryd.func25 (by kernel_rfl) rfl #[.int .u64 (IntKind.u64.wrap ((IntKind.u64.wrap (2 * t282)) + 1)), .int .i64 (wrap64 (t283 - 1))] rfl lz ?_; (with_reducible refine (bigdec_Exact.calls k (IntKind.u64.wrap ((IntKind.u64.wrap (2 * t282)) + 1)) (wrap64 (t283 - 1)) t285 t286 t287 _ A24.out).mono ?_); rintro e w31 ⟨rfl, hb⟩; refine ⟨_, rfl, ?_⟩; replace BK276 := kN (g := gb276) (cs := #[.string (⟨#[]⟩ : ByteArray), .int .i64 0]) hb bk; replace BK281 := kN (g := gb281) (cs := #[.int .i64 t277, .int .i64 t278, .int .u64 t279]) hb bk; replace BK284 := kN (g := gb284) (cs := #[.string (⟨#[]⟩ : ByteArray), .int .i64 0, .string (⟨#[]⟩ : ByteArray), .int .i64 0, .bool ((Int.tmod t282 2) == 0)]) hb bk; replace HB := bN bz hb; (try clear hb); (try clear hb2); (try clear hk); (try clear hi); obtain ⟨hcz32_0, hcz32_1, hcz32_2, hcz32_3, hcz32_4, hfz32_0, hfz32_1, hfz32_2, hfz32_3, hfz32_4⟩ := cz5 (W := w31) BK284) | ((with_reducible refine gate_callee (f := 25) rfl ?_); refine goesL_ (some 65) rfl rfl Tryd.func25 (by kernel_rfl) rfl #[.int .u64 (IntKind.u64.wrap ((IntKind.u64.wrap (2 * t282)) - 1)), .int .i64 (wrap64 (t283 - 1))] rfl lz ?_; (with_reducible refine (bigdec_Exact.calls k (IntKind.u64.wrap ((IntKind.u64.wrap (2 * t282)) - 1)) (wrap64 (t283 - 1)) t288 t289 t290 _ A25.out).mono ?_); rintro e w33 ⟨rfl, hb⟩; refine ⟨_, rfl, ?_⟩; replace BK276 := kN (g := gb276) (cs := #[.string (⟨#[]⟩ : ByteArray), .int .i64 0]) hb bk; replace BK281 := kN (g := gb281) (cs := #[.int .i64 t277, .int .i64 t278, .int .u64 t279]) hb bk; replace BK284 := kN (g := gb284) (cs := #[.string (⟨#[]⟩ : ByteArray), .int .i64 0, .string t285, .int .i64 t286, .bool ((Int.tmod t282 2) == 0)]) hb bk; replace HB := bN bz hb; (try clear hb); (try clear hb2); (try clear hk); (try clear hi); obtain ⟨hcz34_0, hcz34_1, hcz34_2, hcz34_3, hcz34_4, hfz34_0, hfz34_1, hfz34_2, hfz34_3, hfz34_4⟩ := cz5 (W := w33) BK284))
     (try simp only [Act.put, List.setIfInBounds_toArray, List.set_cons_zero, List.set_cons_succ])
     go_cut [79] (fun v79 wc => ∃ (kq : Nat) (x79_25 : Bool), v79 = .bool x79_25 ∧ Aside0 (short_Shortest.j0 kq (Go.bits .and .u64 a0 (IntKind.u64.wrap ((ji12) - 1))) t282 t283 x79_25 t277 t278 t279 t288 t289 t285 t286 ((Int.tmod t282 2) == 0) = some (r1, r2, r3)) ∧ Aside0 (kq ≤ k) ∧ Aside0 (wc.heap[gb276]? = some (.cells #[.string (⟨#[]⟩ : ByteArray), .int .i64 0] 28 (0, 0))) ∧ Aside0 (wc.heap[gb281]? = some (.cells #[.int .i64 t277, .int .i64 t278, .int .u64 t279] 50 (0, 0))) ∧ Aside0 (wc.heap[gb284]? = some (.cells #[.string t288, .int .i64 t289, .string t285, .int .i64 t286, .bool ((Int.tmod t282 2) == 0)] 70 (0, 0))) ∧ Aside0 (Below w.heap.size w wc))
     case first =>
      have H := HC26.out
      clear HC26
      by_cases c35 : 0 ≤ t277
      ·rw [if_pos c35] at H
       have c35b0 := eq_true c35
       have c35b1 : decide (0 ≤ t277) = true := decide_eq_true c35
       clear c35
       obtain ⟨ji36, hji36⟩ : ∃ j_ : Int, (shl .u64 1 t277) = j_ := ⟨_, rfl⟩
       (first | rw [hji36] at H | simp only [hji36] at H)
       have hji36_ : (IntKind.u64.wrap (1 * 2 ^ min t277.toNat 64)) = ji36 := hji36
       have hji36z : t277 ≤ 64 → (IntKind.u64.wrap (1 * 2 ^ t277.toNat)) = ji36 := shl_small hji36
       have hji36u : (IntKind.u64.wrap (2 ^ min t277.toNat 64)) = ji36 := by have h_ := hji36_; rw [Int.one_mul] at h_; exact h_
       have hji36v : t277 ≤ 64 → (IntKind.u64.wrap (2 ^ t277.toNat)) = ji36 := fun hle_ => by have h_ := hji36z hle_; rw [Int.one_mul] at h_; exact h_
       by_cases c37 : t282 = (ji36)
       ·rw [if_pos c37] at H
        obtain ⟨c37b0, c37b1⟩ := eT c37
        clear c37
        try first | rw [c37b0] | rw [c37b1]
        have H' := Aside0.mk H
        clear H
        have hnb38 := NB281_276.out
        have hnc38 := NB276_281.out
        have hnb39 := NB281_284.out
        have hnc39 := NB284_281.out
        obtain ⟨hcz40_0, hcz40_1, hcz40_2, hfz40_0, hfz40_1, hfz40_2⟩ := cz3 (W := w33) BK281
        go_wp2
        go_meet
        case rel => exact ⟨_, (decide (t283 > t278)), rz, H', ⟨by first | omega | exact Nat.le_refl _⟩, ⟨bk⟩, ⟨bk⟩, ⟨bk⟩, ⟨bz⟩⟩
       ·rw [if_neg c37] at H
        obtain ⟨c37b0, c37b1⟩ := eF c37
        try first | rw [c37b0] | rw [c37b1]
        have H' := Aside0.mk H
        clear H
        have hnb41 := NB281_276.out
        have hnc41 := NB276_281.out
        have hnb42 := NB281_284.out
        have hnc42 := NB284_281.out
        obtain ⟨hcz43_0, hcz43_1, hcz43_2, hfz43_0, hfz43_1, hfz43_2⟩ := cz3 (W := w33) BK281
        go_wp2
        go_meet
        case rel => exact ⟨_, (false), rz, H', ⟨by first | omega | exact Nat.le_refl _⟩, ⟨bk⟩, ⟨bk⟩, ⟨bk⟩, ⟨bz⟩⟩
      ·rw [if_neg c35] at H
       exact absurd H (by simp)
     case rest =>
      clear HC26
      try clear c9
      try clear c11
      try clear c11b0
      try clear c11b1
      try clear c13
      try clear c13b0
      try clear c21
      try clear c21b0
      try clear c21b1
      try clear c35
      try clear c35b0
      try clear c35b1
      try clear c37
      try clear c37b0
      try clear c37b1
      try clear hcz15_0 hcz15_1 hcz15_2 hfz15_0 hfz15_1 hfz15_2
      try clear hcz16_0 hcz16_1 hfz16_0 hfz16_1
      try clear hcz19_0 hcz19_1 hcz19_2 hfz19_0 hfz19_1 hfz19_2
      try clear hcz23_0 hcz23_1 hfz23_0 hfz23_1
      try clear hcz30_0 hcz30_1 hcz30_2 hcz30_3 hcz30_4 hfz30_0 hfz30_1 hfz30_2 hfz30_3 hfz30_4
      try clear hcz32_0 hcz32_1 hcz32_2 hcz32_3 hcz32_4 hfz32_0 hfz32_1 hfz32_2 hfz32_3 hfz32_4
      try clear hcz34_0 hcz34_1 hcz34_2 hcz34_3 hcz34_4 hfz34_0 hfz34_1 hfz34_2 hfz34_3 hfz34_4
      try clear hcz40_0 hcz40_1 hcz40_2 hfz40_0 hfz40_1 hfz40_2
      try clear hcz43_0 hcz43_1 hcz43_2 hfz43_0 hfz43_1 hfz43_2
      try clear hcz8_0 hcz8_1 hcz8_2 hfz8_0 hfz8_1 hfz8_2
      obtain ⟨kq, x79_25, rfl, HA, HJ25, BK276, BK281, BK284, HB⟩ := hcut
      cases kq with
      | zero => exact absurd HA.out (by simp [short_Shortest.j0])
      | succ kj25 =>
       have H := HA.out
       clear HA
       simp only [short_Shortest.j0] at H
       have HC44 := Aside0.mk H
       clear H
       go_upto_if 79 with (fail)
       go_cut [] (fun wc => ∃ (kq : Nat) (x285000_43 : ByteArray) (x285001_43 : Int), Aside0 (short_Shortest.j1 kq (Go.bits .and .u64 a0 (IntKind.u64.wrap ((ji12) - 1))) t277 t278 t279 x285000_43 x285001_43 t285 t286 ((Int.tmod t282 2) == 0) = some (r1, r2, r3)) ∧ Aside0 (kq ≤ kj25) ∧ Aside0 (wc.heap[gb276]? = some (.cells #[.string (⟨#[]⟩ : ByteArray), .int .i64 0] 28 (0, 0))) ∧ Aside0 (wc.heap[gb281]? = some (.cells #[.int .i64 t277, .int .i64 t278, .int .u64 t279] 50 (0, 0))) ∧ Aside0 (wc.heap[gb284]? = some (.cells #[.string x285000_43, .int .i64 x285001_43, .string t285, .int .i64 t286, .bool ((Int.tmod t282 2) == 0)] 70 (0, 0))) ∧ Aside0 (Below w.heap.size w wc))
       case first =>
        have H := HC44.out
        clear HC44
        by_cases c45 : x79_25 = true
        ·subst c45
         replace H := hT H
         replace H := bs H
         obtain ⟨⟨t291, t292, t293⟩, A46, H⟩ := H
         dsimp only at H
         have H' := Aside0.mk H
         clear H
         go_wp2_with (first | ((with_reducible refine gate_callee (f := 25) rfl ?_); refine goesL_ (some 86) rfl rfl Tryd.func25 (by kernel_rfl) rfl #[.int .u64 (IntKind.u64.wrap ((IntKind.u64.wrap (4 * t282)) - 1)), .int .i64 (wrap64 (t283 - 2))] rfl lz ?_; (with_reducible refine (bigdec_Exact.calls kj25 (IntKind.u64.wrap ((IntKind.u64.wrap (4 * t282)) - 1)) (wrap64 (t283 - 2)) t291 t292 t293 _ A46.out).mono ?_); rintro e w47 ⟨rfl, hb⟩; refine ⟨_, rfl, ?_⟩; replace BK276 := kN (g := gb276) (cs := #[.string (⟨#[]⟩ : ByteArray), .int .i64 0]) hb bk; replace BK281 := kN (g := gb281) (cs := #[.int .i64 t277, .int .i64 t278, .int .u64 t279]) hb bk; replace BK284 := kN (g := gb284) (cs := #[.string t288, .int .i64 t289, .string t285, .int .i64 t286, .bool ((Int.tmod t282 2) == 0)]) hb bk; replace HB := bN bz hb; (try clear hb); (try clear hb2); (try clear hk); (try clear hi); have hnb48 := NB284_276.out; have hnc48 := NB276_284.out; have hnb49 := NB284_281.out; have hnc49 := NB281_284.out; obtain ⟨hcz50_0, hcz50_1, hcz50_2, hcz50_3, hcz50_4, hfz50_0, hfz50_1, hfz50_2, hfz50_3, hfz50_4⟩ := cz5 (W := w47) BK284))
         go_meet
         case rel => exact ⟨_, (t291), (t292), H', ⟨by have := HJ25.out; first | omega | exact Nat.le_refl _⟩, ⟨bk⟩, ⟨bk⟩, ⟨bk⟩, ⟨bz⟩⟩
        ·replace c45 := Bool.eq_false_iff.mpr c45
         subst c45
         replace H := hF H
         have H' := Aside0.mk H
         clear H
         go_wp2
         go_meet
         case rel => exact ⟨_, (t288), (t289), H', ⟨by have := HJ25.out; first | omega | exact Nat.le_refl _⟩, ⟨bk⟩, ⟨bk⟩, ⟨bk⟩, ⟨bz⟩⟩
       case rest =>
        clear HC44
        try clear c9
        try clear c11
        try clear c11b0
        try clear c11b1
        try clear c13
        try clear c13b0
        try clear c21
        try clear c21b0
        try clear c21b1
        try clear c35
        try clear c35b0
        try clear c35b1
        try clear c37
        try clear c37b0
        try clear c37b1
        try clear c45
        try clear hcz15_0 hcz15_1 hcz15_2 hfz15_0 hfz15_1 hfz15_2
        try clear hcz16_0 hcz16_1 hfz16_0 hfz16_1
        try clear hcz19_0 hcz19_1 hcz19_2 hfz19_0 hfz19_1 hfz19_2
        try clear hcz23_0 hcz23_1 hfz23_0 hfz23_1
        try clear hcz30_0 hcz30_1 hcz30_2 hcz30_3 hcz30_4 hfz30_0 hfz30_1 hfz30_2 hfz30_3 hfz30_4
        try clear hcz32_0 hcz32_1 hcz32_2 hcz32_3 hcz32_4 hfz32_0 hfz32_1 hfz32_2 hfz32_3 hfz32_4
        try clear hcz34_0 hcz34_1 hcz34_2 hcz34_3 hcz34_4 hfz34_0 hfz34_1 hfz34_2 hfz34_3 hfz34_4
        try clear hcz40_0 hcz40_1 hcz40_2 hfz40_0 hfz40_1 hfz40_2
        try clear hcz43_0 hcz43_1 hcz43_2 hfz43_0 hfz43_1 hfz43_2
        try clear hcz50_0 hcz50_1 hcz50_2 hcz50_3 hcz50_4 hfz50_0 hfz50_1 hfz50_2 hfz50_3 hfz50_4
        try clear hcz8_0 hcz8_1 hcz8_2 hfz8_0 hfz8_1 hfz8_2
        obtain ⟨kq, x285000_43, x285001_43, HA, HJ43, BK276, BK281, BK284, HB⟩ := hcut
        cases kq with
        | zero => exact absurd HA.out (by simp [short_Shortest.j1])
        | succ kj43 =>
         have H := HA.out
         clear HA
         simp only [short_Shortest.j1] at H
         replace H := bs H
         obtain ⟨⟨t294, t295⟩, A51, H⟩ := H
         dsimp only at H
         have H' := Aside0.mk H
         clear H
         have hnb52 := NB281_276.out
         have hnc52 := NB276_281.out
         have hnb53 := NB281_284.out
         have hnc53 := NB284_281.out
         obtain ⟨hcz54_0, hcz54_1, hcz54_2, hfz54_0, hfz54_1, hfz54_2⟩ := cz3 (W := wc) BK281
         go_wp2_with (first | ((with_reducible refine gate_callee (f := 35) rfl ?_); refine goesL_ (some 92) rfl rfl Tryd.func35 (by kernel_rfl) rfl #[.agg #[.int .i64 t277, .int .i64 t278, .int .u64 t279], .int .u64 (Go.bits .and .u64 a0 (IntKind.u64.wrap ((ji12) - 1)))] rfl (by (try simp only [List.map_toArray, List.map_cons, List.map_nil]); first | done | (simp only [hji12]; rfl) | rfl | (simp only [List.length_drop, List.length_take]; rfl)) ?_; (with_reducible refine (short_shape_exact.calls kj43 t277 t278 t279 (Go.bits .and .u64 a0 (IntKind.u64.wrap ((ji12) - 1))) t294 t295 _ A51.out).mono ?_); rintro e w55 ⟨rfl, hb⟩; refine ⟨_, rfl, ?_⟩; replace BK276 := kN (g := gb276) (cs := #[.string (⟨#[]⟩ : ByteArray), .int .i64 0]) hb bk; replace BK281 := kN (g := gb281) (cs := #[.int .i64 t277, .int .i64 t278, .int .u64 t279]) hb bk; replace BK284 := kN (g := gb284) (cs := #[.string x285000_43, .int .i64 x285001_43, .string t285, .int .i64 t286, .bool ((Int.tmod t282 2) == 0)]) hb bk; replace HB := bN bz hb; (try clear hb); (try clear hb2); (try clear hk); (try clear hi)) | ((with_reducible refine gate_dst (N := 12) rfl ?_); refine box_event rfl (N := 12) rfl (cs := #[.string (⟨#[]⟩ : ByteArray), .int .i64 0]) (t := 28) gz ?_; intro gb296 hg w56 hbox hb; have GE296 := gN bz hg; have NB276_296 := lN (g := gb276) (cs := #[.string (⟨#[]⟩ : ByteArray), .int .i64 0]) hg bk; have NB296_276 := rN (g := gb276) (cs := #[.string (⟨#[]⟩ : ByteArray), .int .i64 0]) hg bk; have NB281_296 := lN (g := gb281) (cs := #[.int .i64 t277, .int .i64 t278, .int .u64 t279]) hg bk; have NB296_281 := rN (g := gb281) (cs := #[.int .i64 t277, .int .i64 t278, .int .u64 t279]) hg bk; have NB284_296 := lN (g := gb284) (cs := #[.string x285000_43, .int .i64 x285001_43, .string t285, .int .i64 t286, .bool ((Int.tmod t282 2) == 0)]) hg bk; have NB296_284 := rN (g := gb284) (cs := #[.string x285000_43, .int .i64 x285001_43, .string t285, .int .i64 t286, .bool ((Int.tmod t282 2) == 0)]) hg bk; replace BK276 := kN (g := gb276) (cs := #[.string (⟨#[]⟩ : ByteArray), .int .i64 0]) hb bk; replace BK281 := kN (g := gb281) (cs := #[.int .i64 t277, .int .i64 t278, .int .u64 t279]) hb bk; replace BK284 := kN (g := gb284) (cs := #[.string x285000_43, .int .i64 x285001_43, .string t285, .int .i64 t286, .bool ((Int.tmod t282 2) == 0)]) hb bk; have BK296 := Aside0.mk hbox; replace HB := bN bz hb; clear hb hbox hg; have hnb57 := NB296_276.out; have hnc57 := NB276_296.out; have hnb58 := NB296_281.out; have hnc58 := NB281_296.out; have hnb59 := NB296_284.out; have hnc59 := NB284_296.out; obtain ⟨hcz60_0, hcz60_1, hfz60_0, hfz60_1⟩ := cz2 (W := w56) BK296; have hnb61 := NB284_276.out; have hnc61 := NB276_284.out; obtain ⟨hcz62_0, hcz62_1, hcz62_2, hcz62_3, hcz62_4, hfz62_0, hfz62_1, hfz62_2, hfz62_3, hfz62_4⟩ := cz5 (W := w56) BK284))
         go_loopg [14] kj43 (fun kq v14 w' => ∃ (x14_3 : Int) (x277000_3 : ByteArray) (x277001_3 : Int), v14 = .int .i64 x14_3 ∧ Aside0 (short_Shortest.l0 kq x14_3 t294 t295 x285000_43 x285001_43 t285 t286 ((Int.tmod t282 2) == 0) = some (r1, r2, r3)) ∧ Aside0 (kq ≤ kj43) ∧ Aside0 (w'.heap[gb276]? = some (.cells #[.string x277000_3, .int .i64 x277001_3] 28 (0, 0))) ∧ Aside0 (w'.heap[gb281]? = some (.cells #[.int .i64 t277, .int .i64 t278, .int .u64 t279] 50 (0, 0))) ∧ Aside0 (w'.heap[gb284]? = some (.cells #[.string x285000_43, .int .i64 x285001_43, .string t285, .int .i64 t286, .bool ((Int.tmod t282 2) == 0)] 70 (0, 0))) ∧ Aside0 (w'.heap[gb296]? = some (.cells #[.string t294, .int .i64 t295] 28 (0, 0))) ∧ Aside0 (Below w.heap.size w w'))
         case atStart => exact ⟨(1), ((⟨#[]⟩ : ByteArray)), (0), rz, H', ⟨Nat.le_refl _⟩, ⟨bk⟩, ⟨bk⟩, ⟨bk⟩, ⟨bk⟩, ⟨bz⟩⟩
         case round =>
          clear H'
          try clear c9
          try clear c11
          try clear c11b0
          try clear c11b1
          try clear c13
          try clear c13b0
          try clear c21
          try clear c21b0
          try clear c21b1
          try clear c35
          try clear c35b0
          try clear c35b1
          try clear c37
          try clear c37b0
          try clear c37b1
          try clear c45
          try clear hcz15_0 hcz15_1 hcz15_2 hfz15_0 hfz15_1 hfz15_2
          try clear hcz16_0 hcz16_1 hfz16_0 hfz16_1
          try clear hcz19_0 hcz19_1 hcz19_2 hfz19_0 hfz19_1 hfz19_2
          try clear hcz23_0 hcz23_1 hfz23_0 hfz23_1
          try clear hcz30_0 hcz30_1 hcz30_2 hcz30_3 hcz30_4 hfz30_0 hfz30_1 hfz30_2 hfz30_3 hfz30_4
          try clear hcz32_0 hcz32_1 hcz32_2 hcz32_3 hcz32_4 hfz32_0 hfz32_1 hfz32_2 hfz32_3 hfz32_4
          try clear hcz34_0 hcz34_1 hcz34_2 hcz34_3 hcz34_4 hfz34_0 hfz34_1 hfz34_2 hfz34_3 hfz34_4
          try clear hcz40_0 hcz40_1 hcz40_2 hfz40_0 hfz40_1 hfz40_2
          try clear hcz43_0 hcz43_1 hcz43_2 hfz43_0 hfz43_1 hfz43_2
          try clear hcz50_0 hcz50_1 hcz50_2 hcz50_3 hcz50_4 hfz50_0 hfz50_1 hfz50_2 hfz50_3 hfz50_4
          try clear hcz54_0 hcz54_1 hcz54_2 hfz54_0 hfz54_1 hfz54_2
          try clear hcz60_0 hcz60_1 hfz60_0 hfz60_1
          try clear hcz62_0 hcz62_1 hcz62_2 hcz62_3 hcz62_4 hfz62_0 hfz62_1 hfz62_2 hfz62_3 hfz62_4
          try clear hcz8_0 hcz8_1 hcz8_2 hfz8_0 hfz8_1 hfz8_2
          obtain ⟨x14_3, x277000_3, x277001_3, rfl, HA, HK3, BK276, BK281, BK284, BK296, HB⟩ := hrel
          cases gk with
          | zero => exact absurd HA.out (by simp [short_Shortest.l0])
          | succ k3 =>
           have H := HA.out
           clear HA
           simp only [short_Shortest.l0] at H
           replace H := bs H
           obtain ⟨⟨t298, t299, t300⟩, A63, H⟩ := H
           dsimp only at H
           have hnb64 := NB296_276.out
           have hnc64 := NB276_296.out
           have hnb65 := NB296_281.out
           have hnc65 := NB281_296.out
           have hnb66 := NB296_284.out
           have hnc66 := NB284_296.out
           obtain ⟨hcz67_0, hcz67_1, hfz67_0, hfz67_1⟩ := cz2 (W := wr) BK296
           go_upto_if 104 with (first | ((with_reducible refine gate_callee (f := 43) rfl ?_); refine goesL_ (some 101) rfl rfl Tryd.func43 (by kernel_rfl) rfl #[.agg #[.string t294, .int .i64 t295], .int .i64 x14_3, .func (.func 42) #[.agg #[.string x285000_43, .int .i64 x285001_43, .string t285, .int .i64 t286, .bool ((Int.tmod t282 2) == 0)]] #[]] rfl lz ?_; (with_reducible refine (short_best.calls k3 t294 t295 x14_3 x285000_43 x285001_43 t285 t286 ((Int.tmod t282 2) == 0) t298 t299 t300 _ A63.out).mono ?_); rintro e w68 ⟨rfl, hb⟩; refine ⟨_, rfl, ?_⟩; replace BK276 := kN (g := gb276) (cs := #[.string x277000_3, .int .i64 x277001_3]) hb bk; replace BK281 := kN (g := gb281) (cs := #[.int .i64 t277, .int .i64 t278, .int .u64 t279]) hb bk; replace BK284 := kN (g := gb284) (cs := #[.string x285000_43, .int .i64 x285001_43, .string t285, .int .i64 t286, .bool ((Int.tmod t282 2) == 0)]) hb bk; replace BK296 := kN (g := gb296) (cs := #[.string t294, .int .i64 t295]) hb bk; replace HB := bN bz hb; (try clear hb); (try clear hb2); (try clear hk); (try clear hi)) | ((with_reducible refine gate_dst (N := 15) rfl ?_); refine box_event rfl (N := 15) rfl (cs := #[.string (⟨#[]⟩ : ByteArray), .int .i64 0]) (t := 28) gz ?_; intro gb301 hg w69 hbox hb; have GE301 := gN bz hg; have NB276_301 := lN (g := gb276) (cs := #[.string x277000_3, .int .i64 x277001_3]) hg bk; have NB301_276 := rN (g := gb276) (cs := #[.string x277000_3, .int .i64 x277001_3]) hg bk; have NB281_301 := lN (g := gb281) (cs := #[.int .i64 t277, .int .i64 t278, .int .u64 t279]) hg bk; have NB301_281 := rN (g := gb281) (cs := #[.int .i64 t277, .int .i64 t278, .int .u64 t279]) hg bk; have NB284_301 := lN (g := gb284) (cs := #[.string x285000_43, .int .i64 x285001_43, .string t285, .int .i64 t286, .bool ((Int.tmod t282 2) == 0)]) hg bk; have NB301_284 := rN (g := gb284) (cs := #[.string x285000_43, .int .i64 x285001_43, .string t285, .int .i64 t286, .bool ((Int.tmod t282 2) == 0)]) hg bk; have NB296_301 := lN (g := gb296) (cs := #[.string t294, .int .i64 t295]) hg bk; have NB301_296 := rN (g := gb296) (cs := #[.string t294, .int .i64 t295]) hg bk; replace BK276 := kN (g := gb276) (cs := #[.string x277000_3, .int .i64 x277001_3]) hb bk; replace BK281 := kN (g := gb281) (cs := #[.int .i64 t277, .int .i64 t278, .int .u64 t279]) hb bk; replace BK284 := kN (g := gb284) (cs := #[.string x285000_43, .int .i64 x285001_43, .string t285, .int .i64 t286, .bool ((Int.tmod t282 2) == 0)]) hb bk; replace BK296 := kN (g := gb296) (cs := #[.string t294, .int .i64 t295]) hb bk; have BK301 := Aside0.mk hbox; replace HB := bN bz hb; clear hb hbox hg; have hnb70 := NB301_276.out; have hnc70 := NB276_301.out; have hnb71 := NB301_281.out; have hnc71 := NB281_301.out; have hnb72 := NB301_284.out; have hnc72 := NB284_301.out; have hnb73 := NB301_296.out; have hnc73 := NB296_301.out; obtain ⟨hcz74_0, hcz74_1, hfz74_0, hfz74_1⟩ := cz2 (W := w69) BK301))
           (try simp only [Act.put, List.setIfInBounds_toArray, List.set_cons_zero, List.set_cons_succ])
           by_cases c75 : t300 = true
           ·subst c75
            replace H := hT H
            simp only [Option.some.injEq, Prod.mk.injEq] at H
            obtain ⟨rfl, rfl, rfl⟩ := H
            have hnb76 := NB301_276.out
            have hnc76 := NB276_301.out
            have hnb77 := NB301_281.out
            have hnc77 := NB281_301.out
            have hnb78 := NB301_284.out
            have hnc78 := NB284_301.out
            have hnb79 := NB301_296.out
            have hnc79 := NB296_301.out
            obtain ⟨hcz80_0, hcz80_1, hfz80_0, hfz80_1⟩ := cz2 (W := w69) BK301
            have hnb81 := NB276_281.out
            have hnc81 := NB281_276.out
            have hnb82 := NB276_284.out
            have hnc82 := NB284_276.out
            have hnb83 := NB276_296.out
            have hnc83 := NB296_276.out
            obtain ⟨hcz84_0, hcz84_1, hfz84_0, hfz84_1⟩ := cz2 (W := w69) BK276
            go_wp2
            refine bodyPost_ret (results_ct rfl _ _ gb276 28 #[.string t298, .int .i64 t299] (0, 0) _ rfl bk Tryd.underlying28 rfl (by kernel_rfl)) rfl ?_
            exact ⟨by first | rfl | (simp [errW_none, errW_some] <;> rfl) | (simp only [← hji10, ← hji12]; first | rfl | (simp [errW_none, errW_some] <;> rfl)) | (simp [*, errW_none, errW_some] <;> rfl), bz⟩
           ·replace c75 := Bool.eq_false_iff.mpr c75
            subst c75
            replace H := hF H
            have H' := Aside0.mk H
            clear H
            go_wp2
            go_roundg k3
            case measure => have := HJ25.out; have := HJ43.out; have := HK3.out; omega
            case rel => exact ⟨(wrap64 (x14_3 + 1)), (x277000_3), (x277001_3), rz, H', ⟨by have := HJ25.out; have := HJ43.out; have := HK3.out; omega⟩, ⟨bk⟩, ⟨bk⟩, ⟨bk⟩, ⟨bk⟩, ⟨bz⟩⟩
  ·rw [if_neg c11] at H
   exact absurd H (by simp)
 ·replace c9 := Bool.eq_false_iff.mpr c9
  subst c9
  replace H := hF H
  simp only [Option.some.injEq, Prod.mk.injEq] at H
  obtain ⟨rfl, rfl, rfl⟩ := H
  have hnb85 := NB276_281.out
  have hnc85 := NB281_276.out
  obtain ⟨hcz86_0, hcz86_1, hfz86_0, hfz86_1⟩ := cz2 (W := w6) BK276
  go_wp2
  refine bodyPost_ret (results_ct rfl _ _ gb276 28 #[.string (⟨#[]⟩ : ByteArray), .int .i64 0] (0, 0) _ rfl bk Tryd.underlying28 rfl (by kernel_rfl)) rfl ?_
  exact ⟨ez, bz⟩
end Go.Proofs.YtmeapdchnnpceaaDoor.Fn
end
section
namespace Go.Proofs.YtmeapdchnnpceaaDoor.Pure
open Go.RowKit Go.Proofs.YtmeapdchnnpceaaDoorW.PrintWords Go.Proofs.YtmeapdchnnpceaaDoor.Fn
set_option linter.unusedVariables false
set_option linter.unusedSimpArgs false
theorem one_decOf (u : Int) : (S ([49] : List UInt8), u + 1) = (S (decOf 1 u).1, (decOf 1 u).2) := by
  unfold decOf
  rw [if_neg (by omega)]
  have h1 : digs 1 = [49] := rfl
  rw [h1]
  have h2 : rz [49] = [49] := rfl
  rw [h2]
  simp
  omega
theorem normS_all {l : List UInt8} (h : AllD l) {p : Int} (hl : l.length ≤ 2000) (hp : -5000 ≤ p ∧ p ≤ 5000) : normS (S l) p = (S (decOf (val l) (p - l.length)).1, (decOf (val l) (p - l.length)).2, 0) := by
  unfold normS normTail
  rw [if_neg (by rw [size_S]; omega), L_S, if_pos (all_isD h), if_neg (by omega), if_neg (by omega), formL_eq h]
  rfl
theorem dec_bound {n k : Nat} {e : Int} (h : n < 10 ^ k) (hk : k ≤ 1400) (he : -3000 ≤ e) (h2 : e + k ≤ 3000) : (decOf n e).1.length ≤ 2000 ∧ -5000 ≤ (decOf n e).2 ∧ (decOf n e).2 ≤ 5000 := by
  have := decOf_bound h e
  omega
structure Val (wide : Bool) (p : Nat) (v : List UInt8 × Int) : Prop where
  form : InForm v.1 v.2
  len : v.1.length ≤ 1300
  lo : -1200 ≤ v.2
  hi : v.2 ≤ 1300
def cU (v : List UInt8 × Int) (n : Nat) : Nat := val (v.1.take n)
def cE (v : List UInt8 × Int) (n : Nat) : Int := v.2 - n
def isP (wide : Bool) (p : Nat) (n : Nat) (x : Int) : Prop := rdX wide (dX wide n x) = p
instance (wide : Bool) (p n : Nat) (x : Int) : Decidable (isP wide p n x) := by unfold isP; infer_instance
def nearU (v : List UInt8 × Int) (n : Nat) : Nat := if downP v.1 n then cU v n else cU v n + 1
def bestD (wide : Bool) (p : Nat) (v : List UInt8 × Int) (n : Nat) : Option (List UInt8 × Int) :=
  if v.1.length ≤ n then some v
  else if isP wide p (nearU v n) (cE v n) then some (decOf (nearU v n) (cE v n))
  else if isP wide p (cU v n) (cE v n) then some (decOf (cU v n) (cE v n))
  else if isP wide p (cU v n + 1) (cE v n) then some (decOf (cU v n + 1) (cE v n)) else none
def optD (o : Option (List UInt8 × Int)) : ByteArray × Int × Bool := match o with
  | some d => (S d.1, d.2, true)
  | none => (⟨#[]⟩, 0, false)
structure Span (wide : Bool) (p : Nat) (lo hi : List UInt8 × Int) : Prop where
  f1 : InForm lo.1 lo.2
  f2 : InForm hi.1 hi.2
  b1 : lo.1.length ≤ 2000 ∧ -5000 ≤ lo.2 ∧ lo.2 ≤ 5000
  b2 : hi.1.length ≤ 2000 ∧ -5000 ≤ hi.2 ∧ hi.2 ≤ 5000
  c1 : ∀ (n : Nat) (x : Int), -(vv : Int) ≤ x → cmpD lo.1 lo.2 (decOf n x).1 (decOf n x).2 = cmpN (loX wide p) (dX wide n x)
  c2 : ∀ (n : Nat) (x : Int), -(vv : Int) ≤ x → cmpD hi.1 hi.2 (decOf n x).1 (decOf n x).2 = cmpN (hiX wide p) (dX wide n x)
theorem in_ev {wide : Bool} {p : Nat} {lo hi : List UInt8 × Int} (hs : Span wide p lo hi) (hp : 0 < p) (hi2 : p < ii wide) {n k : Nat} {e : Int} (h : n < 10 ^ k) (hk : k ≤ 1400) (he : -3000 ≤ e) (h2 : e + k ≤ 3000) :
    Ev (fun r => short_span_in.f r (S lo.1) lo.2 (S hi.1) hi.2 (decide (p % 2 = 0)) (S (decOf n e).1) (decOf n e).2) (decide (isP wide p n e)) := by
  have hv := vv_eq
  exact span_ev wide p _ rfl rfl rfl hs.f1 hs.f2 (inForm_decOf n e) hs.b1 hs.b2 (dec_bound h hk he h2) (hs.c1 n e (by omega)) (hs.c2 n e (by omega)) _ (by rw [decide_eq_true_iff]; exact (inX_iff wide hp hi2 _).symm)
theorem cU_lt {wide : Bool} {p : Nat} {v : List UInt8 × Int} (hv : Val wide p v) (n : Nat) (hn : n < v.1.length) : cU v n < 10 ^ n := by
  have := val_lt (hv.form.1.take n)
  rw [List.length_take, Nat.min_eq_left (by omega)] at this
  exact this
theorem nearU_two (v : List UInt8 × Int) (n : Nat) : nearU v n = cU v n ∨ nearU v n = cU v n + 1 := by
  unfold nearU
  split
  · exact .inl rfl
  · exact .inr rfl
theorem round_v {wide : Bool} {p : Nat} {v : List UInt8 × Int} (hv : Val wide p v) (n : Nat) (hn : n < v.1.length) : roundN v.1 v.2 (n : Int) = decOf (nearU v n) (cE v n) := by
  unfold roundN nearU cU cE
  rw [if_neg (by omega), if_neg (by omega), Int.toNat_natCast]
  by_cases c : downP v.1 n
  · rw [if_pos c, if_pos c]
  · rw [if_neg c, if_neg c]
theorem Val.five {wide : Bool} {p : Nat} {v : List UInt8 × Int} (hv : Val wide p v) : v.1.length ≤ 2000 ∧ -5000 ≤ v.2 ∧ v.2 ≤ 5000 := by
  have := hv.len
  have := hv.lo
  have := hv.hi
  omega
theorem best_ev {wide : Bool} {p : Nat} {lo hi v : List UInt8 × Int} (hs : Span wide p lo hi) (hv : Val wide p v) (hp : 0 < p) (hi2 : p < ii wide) (n : Nat) :
    Ev (fun k => short_best.f k (S v.1) v.2 (n : Int) (S lo.1) lo.2 (S hi.1) hi.2 (decide (p % 2 = 0))) (optD (bestD wide p v n)) := by
  have hl := hv.len
  have hlo := hv.lo
  have hhi := hv.hi
  have h5 := hv.five
  unfold short_best.f bestD
  rw [size_S]
  by_cases c1 : v.1.length ≤ n
  · rw [if_pos c1]
    exact Ev.congr (fun k => if_pos (by omega)) (Ev.now _)
  · rw [if_neg c1]
    refine Ev.congr (fun k => if_neg (by omega)) ?_
    have hn : n < v.1.length := by omega
    have hu := cU_lt hv n hn
    have hu1 : cU v n + 1 < 10 ^ (n + 1) := by
      rw [Nat.pow_succ]
      have : 1 ≤ 10 ^ n := Nat.pow_pos (by omega)
      omega
    have hE : -3000 ≤ cE v n ∧ cE v n + ((n + 1 : Nat) : Int) ≤ 3000 := by unfold cE; omega
    have hnr : nearU v n < 10 ^ (n + 1) := by rcases nearU_two v n with h | h <;> rw [h] <;> omega
    have hr := roundS_eq (S v.1) v.2 (n : Int)
    have e1 : roundS (S v.1) v.2 (fun _ => (n : Int)) = (S (decOf (nearU v n) (cE v n)).1, (decOf (nearU v n) (cE v n)).2, 0) := by
      unfold roundS
      rw [normS_ok hv.form h5.1 h5.2, if_pos rfl]
      simp only [L_S]
      rw [round_v hv n hn]
      rfl
    rw [e1] at hr
    refine Ev.bind hr ?_
    refine Ev.bind (in_ev hs hp hi2 hnr (by omega) hE.1 hE.2) ?_
    by_cases c2 : isP wide p (nearU v n) (cE v n)
    · rw [if_pos c2]
      refine Ev.congr (fun k => if_pos (decide_eq_true c2)) (Ev.now _)
    · rw [if_neg c2]
      refine Ev.congr (fun k => if_neg (fun h => c2 (of_decide_eq_true h))) ?_
      refine Ev.congr (fun k => if_pos (by omega)) ?_
      refine Ev.congr (fun k => if_pos (by omega)) ?_
      rw [Int.toNat_natCast, S_take]
      have hnm := norm_eq (S (v.1.take n)) v.2
      have htl : (v.1.take n).length = n := by rw [List.length_take, Nat.min_eq_left (by omega)]
      rw [normS_all (hv.form.1.take n) (by omega) h5.2, htl] at hnm
      rw [show val (v.1.take n) = cU v n from rfl, show v.2 - (n : Int) = cE v n from rfl] at hnm
      refine Ev.bind hnm ?_
      have hw : wrap64 (wrap64 (v.2 - (n : Int)) + 1) = cE v n + 1 := by
        unfold cE
        rw [wrap_id (x := v.2 - (n : Int)) (by omega) (by omega), wrap_id (by omega) (by omega)]
      rw [hw]
      have hone := one_decOf (cE v n)
      have ho1 : (S ([49] : List UInt8)) = S (decOf 1 (cE v n)).1 := congrArg Prod.fst hone
      have ho2 : cE v n + 1 = (decOf 1 (cE v n)).2 := congrArg Prod.snd hone
      have hadd := addS_eq (S (decOf (cU v n) (cE v n)).1) (decOf (cU v n) (cE v n)).2 (S (decOf 1 (cE v n)).1) (decOf 1 (cE v n)).2
      have hE' : cE v n + (n : Int) ≤ 3000 := by omega
      have hE1 : cE v n + ((1 : Nat) : Int) ≤ 3000 := by omega
      rw [addS_ok (inForm_decOf _ _) (inForm_decOf _ _) (dec_bound hu (by omega) hE.1 hE') (dec_bound (n := 1) (k := 1) (by decide) (by decide) hE.1 hE1)] at hadd
      have e2 : addD (decOf (cU v n) (cE v n)).1 (decOf (cU v n) (cE v n)).2 (decOf 1 (cE v n)).1 (decOf 1 (cE v n)).2 = (S (decOf (cU v n + 1) (cE v n)).1, (decOf (cU v n + 1) (cE v n)).2, 0) := by
        unfold addD
        rw [sum_decOf, if_neg (by have := (dec_bound hu1 (by omega) hE.1 hE.2).1; omega)]
        rfl
      rw [e2, ← ho1, ← ho2] at hadd
      refine Ev.bind (g := fun k => bigdec_Add.f k (S (decOf (cU v n) (cE v n)).1) (decOf (cU v n) (cE v n)).2 (⟨#[49]⟩ : ByteArray) (cE v n + 1)) hadd ?_
      refine Ev.step (fun k => by simp only [short_best.l0]; rfl) ?_
      refine Ev.congr (fun k => if_pos (by simp)) ?_
      refine Ev.congr (fun k => if_pos (by simp)) ?_
      refine Ev.bind (in_ev hs hp hi2 hu (by omega) hE.1 hE') ?_
      by_cases c3 : isP wide p (cU v n) (cE v n)
      · rw [if_pos c3]
        exact Ev.congr (fun k => if_pos (decide_eq_true c3)) (Ev.now _)
      · rw [if_neg c3]
        refine Ev.congr (fun k => if_neg (fun h => c3 (of_decide_eq_true h))) ?_
        rw [show wrap64 ((0 : Int) + 1) = 1 by simp [wrap64]]
        refine Ev.step (fun k => by simp only [short_best.l0]; rfl) ?_
        refine Ev.congr (fun k => if_pos (by simp)) ?_
        refine Ev.congr (fun k => if_neg (by simp)) ?_
        refine Ev.congr (fun k => if_pos (by simp)) ?_
        refine Ev.bind (in_ev hs hp hi2 hu1 (by omega) hE.1 hE.2) ?_
        by_cases c4 : isP wide p (cU v n + 1) (cE v n)
        · rw [if_pos c4]
          exact Ev.congr (fun k => if_pos (decide_eq_true c4)) (Ev.now _)
        · rw [if_neg c4]
          refine Ev.congr (fun k => if_neg (fun h => c4 (of_decide_eq_true h))) ?_
          rw [show wrap64 ((1 : Int) + 1) = 2 by simp [wrap64]]
          refine Ev.step (fun k => by simp only [short_best.l0]; rfl) ?_
          exact Ev.congr (fun k => if_neg (by simp)) (Ev.now _)
def shortGo (wide : Bool) (p : Nat) (v : List UInt8 × Int) : Nat → Nat → List UInt8 × Int
  | 0, _ => v
  | d + 1, n => match bestD wide p v n with
    | some r => r
    | none => shortGo wide p v d (n + 1)
theorem best_all (wide : Bool) (p : Nat) (v : List UInt8 × Int) {n : Nat} (h : v.1.length ≤ n) : bestD wide p v n = some v := by
  unfold bestD
  rw [if_pos h]
theorem loop_ev {wide : Bool} {p : Nat} {lo hi v : List UInt8 × Int} (hs : Span wide p lo hi) (hv : Val wide p v) (hp : 0 < p) (hi2 : p < ii wide) : ∀ (d n : Nat), v.1.length ≤ n + d → n ≤ 2000 →
    Ev (fun k => short_Shortest.l0 k (n : Int) (S v.1) v.2 (S lo.1) lo.2 (S hi.1) hi.2 (decide (p % 2 = 0))) (S (shortGo wide p v d n).1, (shortGo wide p v d n).2, 0) := by
  intro d
  induction d with
  | zero =>
    intro n h hn
    have hb := best_ev hs hv hp hi2 n
    rw [best_all wide p v (n := n) h] at hb
    refine Ev.step (fun k => by simp only [short_Shortest.l0]; rfl) ?_
    refine Ev.bind hb ?_
    exact Ev.congr (fun k => if_pos rfl) (Ev.now _)
  | succ d ih =>
    intro n h hn
    have hb := best_ev hs hv hp hi2 n
    refine Ev.step (fun k => by simp only [short_Shortest.l0]; rfl) ?_
    refine Ev.bind hb ?_
    unfold shortGo
    cases hbd : bestD wide p v n with
    | some r => exact Ev.congr (fun k => if_pos rfl) (Ev.now _)
    | none =>
      refine Ev.congr (fun k => if_neg (by decide)) ?_
      have hlen := hv.len
      have hn2 : n < v.1.length := by
        refine Nat.lt_of_not_le fun c => ?_
        rw [best_all wide p v c] at hbd
        cases hbd
      rw [wrap_id (by omega) (by omega), show ((n : Int) + 1) = ((n + 1 : Nat) : Int) by omega]
      exact ih (n + 1) (by omega) (by omega)
def exV (wide : Bool) (p : Nat) : List UInt8 × Int := exD (fM (ff wide) p) ((fE (ff wide) p : Int) - (ll wide : Int))
theorem exV_val (wide : Bool) {p : Nat} (hp : p < ii wide) : Val wide p (exV wide p) := by
  have h1 := fEl wide (Nat.le_of_lt hp)
  have h2 := fE_le wide (Nat.le_of_lt hp)
  have h := exD_small (m := fM (ff wide) p) (by omega) (e := (fE (ff wide) p : Int) - (ll wide : Int)) (by omega)
  exact ⟨exD_form _ _, h.1, h.2.1, h.2.2⟩
def shortD (wide : Bool) (p : Nat) : List UInt8 × Int := shortGo wide p (exV wide p) (exV wide p).1.length 1
def shortS (wide : Bool) (a : Nat) : ByteArray × Int × Int :=
  if ii wide ≤ bareN wide a then (⟨#[]⟩, 0, 1) else if bareN wide a = 0 then (⟨#[]⟩, 0, 0) else (S (shortD wide (bareN wide a)).1, (shortD wide (bareN wide a)).2, 0)
theorem hi_span (wide : Bool) {p : Nat} (hp : 0 < p) (hi : p < ii wide) {lo : List UInt8 × Int} (f1 : InForm lo.1 lo.2) (b1 : lo.1.length ≤ 2000 ∧ -5000 ≤ lo.2 ∧ lo.2 ≤ 5000)
    (c1 : ∀ (n : Nat) (x : Int), -(vv : Int) ≤ x → cmpD lo.1 lo.2 (decOf n x).1 (decOf n x).2 = cmpN (loX wide p) (dX wide n x)) :
    Span wide p lo (exD (2 * fM (ff wide) p + 1) ((fE (ff wide) p : Int) - (ll wide : Int) - 1)) := by
  have h1 := fEl wide (Nat.le_of_lt hi)
  have h2 := fE_le wide (Nat.le_of_lt hi)
  have h := exD_small (m := 2 * fM (ff wide) p + 1) (by omega) (e := (fE (ff wide) p : Int) - (ll wide : Int) - 1) (by omega)
  exact ⟨f1, exD_form _ _, b1, by omega, c1, fun n x hx => cmp_hi wide p n x hx⟩
theorem j1_ev {wide : Bool} {p : Nat} {lo hi : List UInt8 × Int} (hs : Span wide p lo hi) (hp : 0 < p) (hi2 : p < ii wide) :
    Ev (fun k => short_Shortest.j1 k (p : Int) (ff wide : Int) (-(ll wide : Int)) (ii wide : Int) (S lo.1) lo.2 (S hi.1) hi.2 (decide (p % 2 = 0))) (S (shortD wide p).1, (shortD wide p).2, 0) := by
  refine Ev.step (fun k => by simp only [short_Shortest.j1]; rfl) ?_
  have hsh := shapeExact_ev wide (Nat.le_of_lt hi2)
  refine Ev.bind hsh ?_
  exact loop_ev hs (exV_val wide hi2) hp hi2 (exV wide p).1.length 1 (by omega) (by omega)
theorem shortest_eq (wide : Bool) (a : Nat) (ha : a < 18446744073709551616) : Ev (fun k => short_Shortest.f k (a : Int) (szB wide)) (shortS wide a) := by
  obtain ⟨j, hj, ht, hw⟩ := tt_pow wide
  have hi := ii_lt wide
  have hmt := Nat.mod_lt a (tt_le wide).1
  have htt := (tt_le wide).2
  unfold short_Shortest.f
  rw [of_eq']
  simp only [Option.bind_some, if_true]
  rw [hw]
  refine Ev.congr (fun k => if_pos (by omega)) ?_
  rw [mask_one _ hj, and_mask _ _ (by omega) ha, ← ht]
  unfold shortS bareN
  obtain ⟨p, hp⟩ : ∃ p, a % tt wide = p := ⟨_, rfl⟩
  rw [hp] at hmt ⊢
  by_cases c1 : ii wide ≤ p
  · rw [if_pos c1]
    exact Ev.congr (fun k => if_pos (by omega)) (Ev.now _)
  · rw [if_neg c1]
    refine Ev.congr (fun k => if_neg (by omega)) ?_
    rw [value_eq wide p (by omega)]
    simp only [Option.bind_some]
    by_cases c2 : p = 0
    · rw [if_pos c2]
      have h0 : fM (ff wide) p = 0 := by rw [c2]; cases wide <;> decide
      exact Ev.congr (fun k => if_pos (by omega)) (Ev.now _)
    · rw [if_neg c2]
      have hp0 : 0 < p := by omega
      have hlt : p < ii wide := by omega
      have hm := fM_pos (f := ff wide) hp0
      refine Ev.congr (fun k => if_neg (by omega)) ?_
      have h1 := fEl wide (Nat.le_of_lt hlt)
      have h2 := fE_le wide (Nat.le_of_lt hlt)
      obtain ⟨e, he⟩ : ∃ e : Int, (fE (ff wide) p : Int) - (ll wide : Int) = e := ⟨_, rfl⟩
      have hlo2 := cmp_lo2 wide hp0
      have hlo1 := cmp_lo1 wide hp0
      have hsp := fun lo => @hi_span wide p hp0 hlt lo
      have hll := ll_two wide
      rw [he] at h1 hlo1 hlo2 hsp ⊢
      obtain ⟨m, hmm⟩ : ∃ m, fM (ff wide) p = m := ⟨_, rfl⟩
      rw [hmm] at hm h2 hlo1 hlo2 hsp ⊢
      have e1 : IntKind.u64.wrap (IntKind.u64.wrap (2 * (m : Int)) + 1) = ((2 * m + 1 : Nat) : Int) := by
        rw [show (2 : Int) * (m : Int) = ((2 * m : Nat) : Int) by omega, u64N _ (by omega), show (((2 * m : Nat) : Int) + 1) = ((2 * m + 1 : Nat) : Int) by omega, u64N _ (by omega)]
      have e2 : IntKind.u64.wrap (IntKind.u64.wrap (2 * (m : Int)) - 1) = ((2 * m - 1 : Nat) : Int) := by
        rw [show (2 : Int) * (m : Int) = ((2 * m : Nat) : Int) by omega, u64N _ (by omega), show (((2 * m : Nat) : Int) - 1) = ((2 * m - 1 : Nat) : Int) by omega, u64N _ (by omega)]
      have e4 : IntKind.u64.wrap (IntKind.u64.wrap (4 * (m : Int)) - 1) = ((4 * m - 1 : Nat) : Int) := by
        rw [show (4 : Int) * (m : Int) = ((4 * m : Nat) : Int) by omega, u64N _ (by omega), show (((4 * m : Nat) : Int) - 1) = ((4 * m - 1 : Nat) : Int) by omega, u64N _ (by omega)]
      have w1 : wrap64 (e - 1) = e - 1 := wrap_id (by omega) (by omega)
      have w2 : wrap64 (e - 2) = e - 2 := wrap_id (by omega) (by omega)
      have x1 := exact_eq (2 * m + 1) (e - 1) (by omega)
      rw [exactS_exD _ (by omega)] at x1
      have x2 := exact_eq (2 * m - 1) (e - 1) (by omega)
      rw [exactS_exD _ (by omega)] at x2
      have x4 := exact_eq (4 * m - 1) (e - 2) (by omega)
      rw [exactS_exD _ (by omega)] at x4
      have s2 := exD_small (m := 2 * m - 1) (by omega) (e := e - 1) (by omega)
      have s4 := exD_small (m := 4 * m - 1) (by omega) (e := e - 2) (by omega)
      rw [e1, w1, e2]
      refine Ev.bind x1 ?_
      refine Ev.bind x2 ?_
      refine Ev.congr (fun k => if_pos (by omega)) ?_
      have hpar : (Int.tmod (m : Int) 2 == 0) = decide (p % 2 = 0) := by
        rw [show (2 : Int) = ((2 : Nat) : Int) from rfl, tmodN]
        have hq : p % 2 = m % 2 := by
          obtain ⟨g1, _⟩ := fOf (ff wide) p
          rw [hmm] at g1
          obtain ⟨u, hu⟩ : ∃ u, ff wide = u + 1 := ⟨ff wide - 1, (Nat.sub_add_cancel (Nat.le_trans (by decide) (ff_two wide).1)).symm⟩
          rw [hu, Nat.pow_succ, ← Nat.mul_assoc] at g1
          generalize fE (u + 1) p * 2 ^ u = G at g1
          rw [g1]
          omega
        rw [hq, Bool.eq_iff_iff]
        simp
        omega
      rw [hpar, shl_one _ (Nat.le_trans (ff_lt wide) (by decide))]
      -- the two ways behind
      have way1 : m ≠ 2 ^ ff wide ∨ fE (ff wide) p = 0 → Ev (fun k => short_Shortest.j1 k (p : Int) (ff wide : Int) (-(ll wide : Int)) (ii wide : Int) (S (exD (2 * m - 1) (e - 1)).1) (exD (2 * m - 1) (e - 1)).2 (S (exD (2 * m + 1) (e - 1)).1) (exD (2 * m + 1) (e - 1)).2 (decide (p % 2 = 0))) (S (shortD wide p).1, (shortD wide p).2, 0) := fun h =>
        j1_ev (hsp _ (exD_form _ _) (by omega) (fun n x hx => hlo1 h n x hx)) hp0 hlt
      by_cases c3 : m = 2 ^ ff wide
      · refine Ev.congr (fun k => if_pos (by rw [c3])) ?_
        by_cases c4 : fE (ff wide) p = 0
        · rw [show decide (e > -(ll wide : Int)) = false from decide_eq_false (by omega)]
          refine Ev.step (fun k => by simp only [short_Shortest.j0]; rfl) ?_
          exact Ev.congr (fun k => if_neg (by decide)) (way1 (.inr c4))
        · rw [show decide (e > -(ll wide : Int)) = true from decide_eq_true (by omega)]
          refine Ev.step (fun k => by simp only [short_Shortest.j0]; rfl) ?_
          refine Ev.congr (fun k => if_pos (by simp)) ?_
          rw [e4, w2]
          refine Ev.bind x4 ?_
          exact j1_ev (hsp _ (exD_form _ _) (by omega) (fun n x hx => hlo2 c3 c4 n x hx)) hp0 hlt
      · refine Ev.congr (fun k => if_neg (fun h => c3 (Int.ofNat.inj h))) ?_
        refine Ev.step (fun k => by simp only [short_Shortest.j0]; rfl) ?_
        exact Ev.congr (fun k => if_neg (by decide)) (way1 (.inl c3))
end Go.Proofs.YtmeapdchnnpceaaDoor.Pure
end
section
namespace Go.Proofs.YtmeapdchnnpceaaDoor.Pure
open Go.RowKit Go.Proofs.YtmeapdchnnpceaaDoorW.PrintWords Go.Proofs.YtmeapdchnnpceaaDoor.Fn
set_option linter.unusedVariables false
set_option linter.unusedSimpArgs false
theorem near_j0 {a : List UInt8} {p : Int} (ha : InForm a p) (hna : a ≠ []) (hl : a.length ≤ 2000) (hp : -7000 ≤ p ∧ p ≤ 5000) (u : Int) (hu : p - a.length < u) (hu2 : u ≤ 50000) :
    Ev (fun k => platenref04_Nearest.j0 k u false (S a) p) (decS (roundN a p (p - u))) := by
  by_cases c1 : p - u < 0
  · have e : roundN a p (p - u) = ([], 0) := by unfold roundN; rw [if_pos c1]
    rw [e]
    refine Ev.step (fun k => ?_) (Ev.now _)
    simp only [platenref04_Nearest.j0]
    rw [if_neg (fun h => by cases h), wrap_id (x := p - u) (by omega) (by omega), if_pos c1]
    rfl
  · obtain ⟨n, hn⟩ : ∃ n : Nat, p - u = (n : Int) := ⟨(p - u).toNat, by omega⟩
    have hnl : n < a.length := by omega
    have hu3 : u = p - n := by omega
    subst hu3
    have hlen : (a.take n).length = n := by rw [List.length_take]; omega
    generalize hq : val (a.take n) = q at *
    have hqb : q < 10 ^ n := by rw [← hq]; have := val_lt (ha.1.take n); rwa [hlen] at this
    -- the floor
    have h1 := rIn_eq (S (a.take n)) p (by rw [size_S]; omega) (by omega) (by omega)
    rw [L_S, formL_eq (ha.1.take n), hlen, hq] at h1
    obtain ⟨f1, f2, f3⟩ := decOf_bound hqb (p - n)
    -- the next
    have b2 : 1 < 10 ^ 1 := by omega
    have hone : (S ([49] : List UInt8), p - (n : Int) + 1) = decS (decOf 1 (p - n)) := by
      unfold decS decOf
      rw [if_neg (by omega)]
      have : digs 1 = [49] := rfl
      rw [this]
      have : rz [49] = [49] := rfl
      rw [this]
      show (S [49], p - (n : Int) + 1) = (S [49], ((1 : Nat) : Int) + (p - n))
      congr 1; omega
    obtain ⟨o1, o2, o3⟩ := decOf_bound b2 (p - n)
    have h2 := rsum_eq (inForm_decOf q (p - n)) (inForm_decOf 1 (p - n)) ⟨by omega, by omega, by omega⟩ ⟨by omega, by omega, by omega⟩
    rw [sum_decOf] at h2
    have hq1 : q + 1 < 10 ^ (n + 1) := by rw [Nat.pow_succ]; omega
    obtain ⟨x1, x2, x3⟩ := decOf_bound hq1 (p - n)
    -- twice the value, and the two neighbours' sum
    have hva := val_lt ha.1
    have eva : decOf (val a) (p - a.length) = (a, p) := decOf_val ha
    have h3 := rsum_eq ha ha ⟨by omega, by omega, by omega⟩ ⟨by omega, by omega, by omega⟩
    have e3 : sumD a p a p = decOf (val a + val a) (p - a.length) := by
      have := sum_decOf (val a) (val a) (p - a.length)
      rw [eva] at this
      exact this
    rw [e3] at h3
    have h4 := rsum_eq (inForm_decOf q (p - n)) (inForm_decOf (q + 1) (p - n)) ⟨by omega, by omega, by omega⟩ ⟨by omega, by omega, by omega⟩
    rw [sum_decOf] at h4
    have hv2 : val a + val a < 10 ^ (a.length + 1) := by rw [Nat.pow_succ]; omega
    have hq2 : q + (q + 1) < 10 ^ (n + 1) := by rw [Nat.pow_succ]; omega
    obtain ⟨y1, y2, y3⟩ := decOf_bound hv2 (p - a.length)
    obtain ⟨z1, z2, z3⟩ := decOf_bound hq2 (p - n)
    have h5 := rcmp_eq (inForm_decOf (val a + val a) (p - a.length)) (inForm_decOf (q + (q + 1)) (p - n)) ⟨by omega, by omega, by omega⟩ ⟨by omega, by omega, by omega⟩
    have e5 : decOf (q + (q + 1)) (p - n) = decOf ((q + (q + 1)) * 10 ^ (a.length - n)) (p - a.length) := by
      rw [← decOf_scale (q + (q + 1)) (a.length - n) (p - n)]
      congr 1; omega
    have e6 : cmpD (decOf (val a + val a) (p - a.length)).1 (decOf (val a + val a) (p - a.length)).2 (decOf (q + (q + 1)) (p - n)).1 (decOf (q + (q + 1)) (p - n)).2 = cmpN (2 * val (a.drop n)) (10 ^ (a.length - n)) := by
      rw [e5, cmp_decOf, sv_cut (show n ≤ a.length by omega), hq]
      generalize 10 ^ (a.length - n) = M
      have h8 := cmpN_add (q * M + q * M) (2 * val (a.drop n)) M
      rw [← h8]
      congr 1
      · omega
      · rw [Nat.add_mul, Nat.add_mul, Nat.one_mul, Nat.add_assoc]
    rw [e6] at h5
    have hd : platenref04_digit.f (S (decOf q (p - n)).1) (decOf q (p - n)).2 (p - n) = some ((q % 10 : Nat) : Int) := by
      by_cases h0 : q = 0
      · subst h0
        have := digit_eq (l := []) (p := 0) (E := min 0 (p - n)) (x := p - n) AllD.nil (by simp; omega) (by omega) ⟨by simp, by omega, by omega, by omega, by omega⟩
        unfold sv at this
        rw [val_nil, Nat.zero_mul, Nat.zero_div] at this
        exact this
      · have := digit_eq (l := (decOf q (p - n)).1) (p := (decOf q (p - n)).2) (E := p - n) (x := p - n) (inForm_decOf q (p - n)).1 (low_decOf h0 _) (by omega) ⟨by omega, by omega, by omega, by omega, by omega⟩
        rw [sv_decOf, show (p - (n : Int) - (p - n)).toNat = 0 by omega, Nat.pow_zero, Nat.div_one] at this
        exact this
    -- the walk
    have hgo : ∀ k, platenref04_Nearest.j0 (k + 1) (p - n) false (S a) p = ((platenref04_In.f k (S (a.take n)) p).bind fun bt243 => ((platenref04_Sum.f k bt243.1 bt243.2 (S [49]) (p - n + 1)).bind fun bt246 => ((platenref04_Sum.f k (S a) p (S a) p).bind fun bt249 => ((platenref04_Sum.f k bt243.1 bt243.2 bt246.1 bt246.2).bind fun bt251 => ((platenref04_Compare.f k bt249.1 bt249.2 bt251.1 bt251.2).bind fun t253 => (if t253 < 0 then (some (bt243.1, bt243.2)) else (if t253 = 0 then ((platenref04_digit.f bt243.1 bt243.2 (p - n)).bind fun t254 => (if (Int.tmod t254 2) = 0 then (some (bt243.1, bt243.2)) else (some (bt246.1, bt246.2)))) else (some (bt246.1, bt246.2))))))))) := by
      intro k
      simp only [platenref04_Nearest.j0]
      rw [if_neg (fun h => by cases h), wrap_id (x := p - (p - (n : Int))) (by omega) (by omega), if_neg c1, if_pos (by omega), if_pos (by rw [size_S]; omega), wrap_id (x := p - (n : Int) + 1) (by omega) (by omega), show (p - (p - (n : Int))).toNat = n by omega, S_take]
      rfl
    refine Ev.step hgo ?_
    refine Ev.bind h1 ?_
    refine Ev.bind (f := fun (k : Nat) (bt246 : ByteArray × Int) => ((platenref04_Sum.f k (S a) p (S a) p).bind fun bt249 => ((platenref04_Sum.f k (decS (decOf q (p - n))).1 (decS (decOf q (p - n))).2 bt246.1 bt246.2).bind fun bt251 => ((platenref04_Compare.f k bt249.1 bt249.2 bt251.1 bt251.2).bind fun t253 => (if t253 < 0 then (some ((decS (decOf q (p - n))).1, (decS (decOf q (p - n))).2)) else (if t253 = 0 then ((platenref04_digit.f (decS (decOf q (p - n))).1 (decS (decOf q (p - n))).2 (p - n)).bind fun t254 => (if (Int.tmod t254 2) = 0 then (some ((decS (decOf q (p - n))).1, (decS (decOf q (p - n))).2)) else (some (bt246.1, bt246.2)))) else (some (bt246.1, bt246.2)))))))) (a := decS (decOf (q + 1) (p - n))) ?_ ?_
    · have e1 : S [49] = (decS (decOf 1 (p - n))).1 := by rw [← hone]
      have e2 : p - (n : Int) + 1 = (decS (decOf 1 (p - n))).2 := by rw [← hone]
      rw [e1, e2]
      exact h2
    · refine Ev.bind h3 (Ev.bind h4 (Ev.bind h5 ?_))
      have er : roundN a p (p - (p - n)) = if downP a n then decOf q (p - n) else decOf (q + 1) (p - n) := by
        rw [show p - (p - (n : Int)) = (n : Int) by omega]
        unfold roundN
        rw [if_neg (by omega), if_neg (by omega), Int.toNat_natCast, hq]
      rw [er]
      have hdn : downP a n ↔ 2 * val (a.drop n) < 10 ^ (a.length - n) ∨ (2 * val (a.drop n) = 10 ^ (a.length - n) ∧ q % 2 = 0) := by unfold downP; rw [hq]
      by_cases g1 : 2 * val (a.drop n) < 10 ^ (a.length - n)
      · rw [cmpN_lt g1, if_pos (hdn.2 (.inl g1))]
        exact Ev.congr (fun k => by rw [if_pos (by omega)]) (Ev.now _)
      · by_cases g2 : 2 * val (a.drop n) = 10 ^ (a.length - n)
        · rw [g2, cmpN_self]
          have em : Int.tmod ((q % 10 : Nat) : Int) 2 = ((q % 2 : Nat) : Int) := by rw [tmod_id (x := ((q % 10 : Nat) : Int)) (Int.natCast_nonneg _)]; omega
          by_cases g3 : q % 2 = 0
          · rw [if_pos (hdn.2 (.inr ⟨g2, g3⟩))]
            refine Ev.congr (fun k => ?_) (Ev.now _)
            rw [if_neg (by omega), if_pos rfl]
            show (platenref04_digit.f (S (decOf q (p - n)).1) (decOf q (p - n)).2 (p - n)).bind _ = _
            rw [hd, Option.bind_some, em, if_pos (by omega)]
          · rw [if_neg (show ¬ downP a n from fun h => by rcases hdn.1 h with h | ⟨_, h⟩ <;> omega)]
            refine Ev.congr (fun k => ?_) (Ev.now _)
            rw [if_neg (by omega), if_pos rfl]
            show (platenref04_digit.f (S (decOf q (p - n)).1) (decOf q (p - n)).2 (p - n)).bind _ = _
            rw [hd, Option.bind_some, em, if_neg (by omega)]
        · rw [cmpN_gt (by omega), if_neg (show ¬ downP a n from fun h => by rcases hdn.1 h with h | ⟨h, _⟩ <;> omega)]
          exact Ev.congr (fun k => by rw [if_neg (by omega), if_neg (by omega)]) (Ev.now _)
theorem near_eq {a : List UInt8} {p : Int} (ha : InForm a p) (hl : a.length ≤ 2000) (hp : -7000 ≤ p ∧ p ≤ 5000) (u : Int) (hu2 : -50000 ≤ u ∧ u ≤ 50000) :
    Ev (fun k => platenref04_Nearest.f k (S a) p u) (decS (roundN a p (p - u))) := by
  unfold platenref04_Nearest.f
  refine Ev.congr (f := fun k => if u ≤ p - (a.length : Int) then platenref04_Nearest.j0 k u true (S a) p else platenref04_Nearest.j0 k u (a == ([] : List UInt8)) (S a) p) (fun k => by rw [low_eq a p (by omega), Option.bind_some, toList_L, L_S]) ?_
  by_cases c1 : u ≤ p - a.length
  · have e : roundN a p (p - u) = (a, p) := by unfold roundN; rw [if_neg (by omega), if_pos (by omega)]
    rw [e]
    refine Ev.congr (fun k => by rw [if_pos c1]) (Ev.step (f := fun _ => some (S a, p)) (fun k => ?_) (Ev.now _))
    simp only [platenref04_Nearest.j0]
    rw [if_pos trivial]
  · by_cases c2 : a = []
    · subst c2
      have hp0 : p = 0 := ha.2.2.2 rfl
      have e : roundN [] p (p - u) = ([], p) := by
        unfold roundN
        by_cases c3 : p - u < 0
        · rw [if_pos c3, hp0]
        · rw [if_neg c3, if_pos (by simp; omega)]
      rw [e]
      refine Ev.congr (fun k => by rw [if_neg c1]) (Ev.step (f := fun _ => some (S [], p)) (fun k => ?_) (Ev.now _))
      simp only [platenref04_Nearest.j0]
      rw [if_pos (show (([] : List UInt8) == []) = true from rfl)]
    · have e : (a == ([] : List UInt8)) = false := by simpa using c2
      refine Ev.congr (fun k => by rw [if_neg c1, e]) (near_j0 ha c2 hl hp u (by omega) (by omega))
end Go.Proofs.YtmeapdchnnpceaaDoor.Pure
end
section
namespace Go.Proofs.YtmeapdchnnpceaaDoor.Pure
open Go.RowKit Go.Proofs.YtmeapdchnnpceaaDoorW.PrintWords Go.Proofs.YtmeapdchnnpceaaDoor.Fn
set_option linter.unusedVariables false
set_option linter.unusedSimpArgs false
theorem dX_decOf (wide : Bool) (n : Nat) {e : Int} (he : -(vv : Int) ≤ e) : dX wide (val (decOf n e).1) ((decOf n e).2 - (decOf n e).1.length) = dX wide n e := by
  by_cases h : n = 0
  · subst h
    rw [decOf_zero]
    unfold dX
    rw [val_nil, Nat.zero_mul, Nat.zero_mul, Nat.zero_mul, Nat.zero_mul]
  · have h1 := sv_decOf n e
    have h2 := low_decOf h e
    unfold sv at h1
    generalize (decOf n e).2 - ((decOf n e).1.length : Int) = x at *
    obtain ⟨j, rfl⟩ : ∃ j : Nat, x = e + j := ⟨(x - e).toNat, by omega⟩
    have e1 : (e + (j : Int) - e).toNat = j := by omega
    have e2 : (e + (j : Int) + (vv : Int)).toNat = j + (e + (vv : Int)).toNat := by omega
    rw [e1] at h1
    unfold dX
    rw [e2, Nat.pow_add, ← Nat.mul_assoc, h1]
theorem rdS_dec (wide : Bool) {n k : Nat} {e : Int} (h : n < 10 ^ k) (hk : k ≤ 1400) (he : -3000 ≤ e) (h2 : e + k ≤ 3000) : rdS wide (S (decOf n e).1) (decOf n e).2 = ((rdX wide (dX wide n e) : Int), 0) := by
  have hb := dec_bound h hk he h2
  have hv := vv_eq
  unfold rdS
  rw [normS_ok (inForm_decOf n e) hb.1 hb.2, if_pos rfl]
  simp only [L_S]
  rw [dX_decOf wide n (by omega)]
theorem rdS_five (wide : Bool) {l : List UInt8} {q : Int} (hf : InForm l q) (h5 : l.length ≤ 2000 ∧ -5000 ≤ q ∧ q ≤ 5000) : rdS wide (S l) q = ((rdX wide (dX wide (val l) (q - l.length)) : Int), 0) := by
  unfold rdS
  rw [normS_ok hf h5.1 h5.2, if_pos rfl]
  simp only [L_S]
theorem decOf_inj {m n : Nat} {e : Int} (h : decOf m e = decOf n e) : m = n := by
  have := sv_decOf m e
  rw [h, sv_decOf] at this
  exact this.symm
theorem cand {wide : Bool} {p : Nat} {v : List UInt8 × Int} (hv : Val wide p v) {n : Nat} (hn : n < v.1.length) :
    cU v n < 10 ^ n ∧ cU v n + 1 < 10 ^ (n + 1) ∧ n ≤ 1400 ∧ n + 1 ≤ 1400 ∧ -3000 ≤ cE v n ∧ cE v n + (n : Int) ≤ 3000 ∧ cE v n + ((n + 1 : Nat) : Int) ≤ 3000 := by
  have hl := hv.len
  have hlo := hv.lo
  have hhi := hv.hi
  have hu := cU_lt hv n hn
  refine ⟨hu, ?_, by omega, by omega, by unfold cE; omega, by unfold cE; omega, by unfold cE; omega⟩
  rw [Nat.pow_succ]
  have : 1 ≤ 10 ^ n := Nat.pow_pos (by omega)
  omega
theorem shortGo_step (wide : Bool) (p : Nat) (v : List UInt8 × Int) (d n : Nat) : shortGo wide p v (d + 1) n = (bestD wide p v n).getD (shortGo wide p v d (n + 1)) := by
  conv => lhs; unfold shortGo
  cases bestD wide p v n <;> rfl
theorem aux_b {l : Nat} {q : Int} (h : l ≤ 2000 ∧ -5000 ≤ q ∧ q ≤ 5000) : l ≤ 4000 ∧ -10000 ≤ q ∧ q ≤ 10000 := by omega
theorem aux_near {P : Int} {n : Nat} (h1 : -1200 ≤ P) (h2 : P ≤ 1300) (h3 : n ≤ 1400) : wrap64 (P - (n : Int)) = P - n ∧ (-50000 ≤ P - (n : Int) ∧ P - (n : Int) ≤ 50000) ∧ P - (P - (n : Int)) = n ∧ (-7000 ≤ P ∧ P ≤ 5000) ∧ wrap64 (wrap64 (P - (n : Int)) + 1) = P - n + 1 ∧ wrap64 ((n : Int) + 1) = ((n + 1 : Nat) : Int) := by
  refine ⟨wrap_id (by omega) (by omega), by omega, by omega, by omega, ?_, ?_⟩
  · rw [wrap_id (x := P - (n : Int)) (by omega) (by omega), wrap_id (by omega) (by omega)]
  · rw [wrap_id (by omega) (by omega)]; omega
theorem near_v {wide : Bool} {p : Nat} {v : List UInt8 × Int} (hv : Val wide p v) {n : Nat} (hn : n < v.1.length) : Ev (fun k => platenref04_Nearest.f k (S v.1) v.2 (wrap64 (v.2 - (n : Int)))) (decS (decOf (nearU v n) (cE v n))) := by
  have ha := aux_near hv.lo hv.hi (n := n) (cand hv hn).2.2.1
  have := near_eq hv.form hv.five.1 ha.2.2.2.1 (v.2 - (n : Int)) ha.2.1
  rw [ha.2.2.1, round_v hv n hn] at this
  rw [ha.1]
  exact this
theorem below_v {wide : Bool} {p : Nat} {v : List UInt8 × Int} (hv : Val wide p v) {n : Nat} (hn : n < v.1.length) : Ev (fun k => platenref04_In.f k ((S v.1).extract 0 ((n : Int)).toNat) v.2) (decS (decOf (cU v n) (cE v n))) := by
  have htl : (v.1.take n).length = n := by rw [List.length_take, Nat.min_eq_left (Nat.le_of_lt hn)]
  have h1 := hv.len
  have h2 := hv.lo
  have h3 := hv.hi
  have hin := rIn_eq (S (v.1.take n)) v.2 (by rw [size_S, htl]; omega) (by omega) (by omega)
  rw [L_S, formL_eq (hv.form.1.take n), htl] at hin
  rw [Int.toNat_natCast, S_take]
  exact hin
theorem aux_e1 {e : Int} {k : Nat} (h : e + (k : Int) ≤ 3000) (he : -3000 ≤ e) (hk : 1 ≤ k) : e + ((1 : Nat) : Int) ≤ 3000 := by omega
theorem above_v {wide : Bool} {p : Nat} {v : List UInt8 × Int} (hv : Val wide p v) {n : Nat} (hn : n < v.1.length) : Ev (fun k => platenref04_Sum.f k (S (decOf (cU v n) (cE v n)).1) (decOf (cU v n) (cE v n)).2 (⟨#[49]⟩ : ByteArray) (wrap64 (wrap64 (v.2 - (n : Int)) + 1))) (decS (decOf (cU v n + 1) (cE v n))) := by
  obtain ⟨g1, g2, g3, g4, g5, g6, g7⟩ := cand hv hn
  have ha := (aux_near hv.lo hv.hi (n := n) g3).2.2.2.2.1
  have hone := one_decOf (cE v n)
  have ho1 : (S ([49] : List UInt8)) = S (decOf 1 (cE v n)).1 := congrArg Prod.fst hone
  have ho2 : cE v n + 1 = (decOf 1 (cE v n)).2 := congrArg Prod.snd hone
  have hsum := rsum_eq (inForm_decOf (cU v n) (cE v n)) (inForm_decOf 1 (cE v n)) (aux_b (dec_bound g1 g3 g5 g6)) (aux_b (dec_bound (n := 1) (k := 1) (by decide) (by decide) g5 (aux_e1 g7 g5 (Nat.le_add_left 1 n))))
  rw [sum_decOf, ← ho1, ← ho2] at hsum
  rw [ha]
  exact hsum
theorem pick_ev {w : Bool} {v lo hi : List UInt8 × Int} {x1 x2 p : Nat} {nu u : Nat} {E nn : Int} {d : Nat → Option (ByteArray × Int × Int)} {r : ByteArray × Int × Int} (hlo : lo = decOf u E) (hhi : hi = decOf (u + 1) E) (hnu : nu = u ∨ nu = u + 1)
    {R : Nat → Prop} [DecidablePred R] (h1 : R u ↔ x1 = p) (h2 : R (u + 1) ↔ x2 = p)
    (hnear : Ev (fun k => platenref04_Nearest.f k (S v.1) v.2 (wrap64 (v.2 - nn))) (decS (decOf nu E)))
    (hrec : Ev (fun k => platenref05_Shortest.l0 k (szB w) (p : Int) (wrap64 (nn + 1)) (S v.1) v.2) r) :
    Ev (fun k => if (x1 : Int) = (p : Int) then platenref05_Shortest.j1 k (szB w) (p : Int) nn (x1 : Int) (x2 : Int) false (S v.1) v.2 (S lo.1) lo.2 (S hi.1) hi.2 else platenref05_Shortest.j1 k (szB w) (p : Int) nn (x1 : Int) (x2 : Int) ((x2 : Int) != (p : Int)) (S v.1) v.2 (S lo.1) lo.2 (S hi.1) hi.2)
      (if R nu then ((decS (decOf nu E)).1, (decS (decOf nu E)).2, 0) else if R u then (S lo.1, lo.2, 0) else if R (u + 1) then (S hi.1, hi.2, 0) else r) := by
  by_cases c1 : x1 = p
  · refine Ev.congr (fun k => if_pos (by rw [c1])) ?_
    refine Ev.step (fun k => by simp only [platenref05_Shortest.j1]; rfl) ?_
    refine Ev.congr (fun k => if_neg (by decide)) ?_
    refine Ev.congr (fun k => if_pos (by rw [c1])) ?_
    by_cases c2 : x2 = p
    · refine Ev.congr (fun k => if_pos (by rw [c2])) ?_
      refine Ev.bind hnear ?_
      refine Ev.congr (fun k => ?_) (Ev.now _)
      rcases hnu with hh | hh
      · rw [hh, if_pos (h1.2 c1), hlo]
        rw [if_pos (by simp [decS])]
        rfl
      · rw [hh, if_pos (h2.2 c2), hlo, hhi]
        have hne : ¬ (((decS (decOf (u + 1) E)).1.toList == (S (decOf u E).1).toList && ((decS (decOf (u + 1) E)).2 == (decOf u E).2)) = true) := by
          intro hq
          rw [Bool.and_eq_true, beq_iff_eq, beq_iff_eq] at hq
          unfold decS at hq
          rw [toList_L, toList_L, L_S, L_S] at hq
          have := decOf_inj (Prod.ext hq.1 hq.2)
          omega
        rw [if_neg hne]
        rfl
    · refine Ev.congr (fun k => if_neg (fun h => c2 (Int.ofNat.inj h))) ?_
      refine Ev.congr (fun k => ?_) (Ev.now _)
      rcases hnu with hh | hh
      · rw [hh, if_pos (h1.2 c1), hlo]
        rfl
      · rw [hh, if_neg (fun h => c2 (h2.1 h)), if_pos (h1.2 c1)]
  · refine Ev.congr (fun k => if_neg (fun h => c1 (Int.ofNat.inj h))) ?_
    refine Ev.step (fun k => by simp only [platenref05_Shortest.j1]; rfl) ?_
    by_cases c2 : x2 = p
    · refine Ev.congr (fun k => if_neg (by rw [c2]; simp)) ?_
      refine Ev.congr (fun k => if_neg (fun h => c1 (Int.ofNat.inj h))) ?_
      refine Ev.congr (fun k => ?_) (Ev.now _)
      rcases hnu with hh | hh
      · rw [hh, if_neg (fun h => c1 (h1.1 h)), if_neg (fun h => c1 (h1.1 h)), if_pos (h2.2 c2)]
      · rw [hh, if_pos (h2.2 c2), hhi]
        rfl
    · refine Ev.congr (fun k => if_pos (bne_iff_ne.2 (fun h => c2 (Int.ofNat.inj h)))) ?_
      have hnone : (if R nu then ((decS (decOf nu E)).1, (decS (decOf nu E)).2, (0 : Int)) else if R u then (S lo.1, lo.2, 0) else if R (u + 1) then (S hi.1, hi.2, 0) else r) = r := by
        rcases hnu with hh | hh
        · rw [hh, if_neg (fun h => c1 (h1.1 h)), if_neg (fun h => c1 (h1.1 h)), if_neg (fun h => c2 (h2.1 h))]
        · rw [hh, if_neg (fun h => c2 (h2.1 h)), if_neg (fun h => c1 (h1.1 h)), if_neg (fun h => c2 (h2.1 h))]
      rw [hnone]
      exact hrec
theorem rloop_ev {wide : Bool} {p : Nat} {v : List UInt8 × Int} (hv : Val wide p v) : ∀ (d n : Nat), v.1.length ≤ n + d → n ≤ 2000 →
    Ev (fun k => platenref05_Shortest.l0 k (szB wide) (p : Int) (n : Int) (S v.1) v.2) (S (shortGo wide p v d n).1, (shortGo wide p v d n).2, 0) := by
  intro d
  induction d with
  | zero =>
    intro n h hn
    refine Ev.step (fun k => by simp only [platenref05_Shortest.l0]; rfl) ?_
    rw [size_S]
    exact Ev.congr (fun k => if_neg (by omega)) (Ev.now _)
  | succ d ih =>
    intro n h hn
    refine Ev.step (fun k => by simp only [platenref05_Shortest.l0]; rfl) ?_
    rw [size_S]
    rw [shortGo_step]
    by_cases c0 : v.1.length ≤ n
    · rw [best_all wide p v c0]
      exact Ev.congr (fun k => if_neg (by omega)) (Ev.now _)
    · have hn2 : n < v.1.length := Nat.lt_of_not_le c0
      refine Ev.congr (fun k => if_pos (by omega)) ?_
      refine Ev.congr (fun k => if_pos (by omega)) ?_
      refine Ev.congr (fun k => if_pos (by omega)) ?_
      have hrec := ih (n + 1) (by omega) (by have := hv.len; omega)
      refine Ev.bind (below_v hv hn2) ?_
      refine Ev.bind (above_v hv hn2) ?_
      obtain ⟨g1, g2, g3, g4, g5, g6, g7⟩ := cand hv hn2
      have r1 := rread_eq wide (S (decOf (cU v n) (cE v n)).1) (decOf (cU v n) (cE v n)).2
      rw [rdS_dec wide g1 g3 g5 g6] at r1
      have r2 := rread_eq wide (S (decOf (cU v n + 1) (cE v n)).1) (decOf (cU v n + 1) (cE v n)).2
      rw [rdS_dec wide g2 g4 g5 g7] at r2
      refine Ev.bind r1 ?_
      refine Ev.bind r2 ?_
      have hwn := (aux_near hv.lo hv.hi (n := n) g3).2.2.2.2.2
      rw [← hwn] at hrec
      have hpk := pick_ev (w := wide) (v := v) (p := p) (x1 := rdX wide (dX wide (cU v n) (cE v n))) (x2 := rdX wide (dX wide (cU v n + 1) (cE v n))) (nn := (n : Int)) (d := fun _ => none) rfl rfl (nearU_two v n) (R := fun u => isP wide p u (cE v n)) Iff.rfl Iff.rfl (near_v hv hn2) hrec
      unfold bestD
      rw [if_neg c0]
      have fin : (if isP wide p (nearU v n) (cE v n) then some (decOf (nearU v n) (cE v n)) else if isP wide p (cU v n) (cE v n) then some (decOf (cU v n) (cE v n)) else if isP wide p (cU v n + 1) (cE v n) then some (decOf (cU v n + 1) (cE v n)) else none).getD (shortGo wide p v d (n + 1)) = (if isP wide p (nearU v n) (cE v n) then decOf (nearU v n) (cE v n) else if isP wide p (cU v n) (cE v n) then decOf (cU v n) (cE v n) else if isP wide p (cU v n + 1) (cE v n) then decOf (cU v n + 1) (cE v n) else shortGo wide p v d (n + 1)) := by
        by_cases d1 : isP wide p (nearU v n) (cE v n)
        · rw [if_pos d1, if_pos d1]; rfl
        · rw [if_neg d1, if_neg d1]
          by_cases d2 : isP wide p (cU v n) (cE v n)
          · rw [if_pos d2, if_pos d2]; rfl
          · rw [if_neg d2, if_neg d2]
            by_cases d3 : isP wide p (cU v n + 1) (cE v n)
            · rw [if_pos d3, if_pos d3]; rfl
            · rw [if_neg d3, if_neg d3]; rfl
      rw [fin]
      refine Ev.congr (fun k => rfl) ?_
      have fin2 : (S (if isP wide p (nearU v n) (cE v n) then decOf (nearU v n) (cE v n) else if isP wide p (cU v n) (cE v n) then decOf (cU v n) (cE v n) else if isP wide p (cU v n + 1) (cE v n) then decOf (cU v n + 1) (cE v n) else shortGo wide p v d (n + 1)).1, (if isP wide p (nearU v n) (cE v n) then decOf (nearU v n) (cE v n) else if isP wide p (cU v n) (cE v n) then decOf (cU v n) (cE v n) else if isP wide p (cU v n + 1) (cE v n) then decOf (cU v n + 1) (cE v n) else shortGo wide p v d (n + 1)).2, (0 : Int))
          = (if isP wide p (nearU v n) (cE v n) then ((decS (decOf (nearU v n) (cE v n))).1, (decS (decOf (nearU v n) (cE v n))).2, 0) else if isP wide p (cU v n) (cE v n) then (S (decOf (cU v n) (cE v n)).1, (decOf (cU v n) (cE v n)).2, 0) else if isP wide p (cU v n + 1) (cE v n) then (S (decOf (cU v n + 1) (cE v n)).1, (decOf (cU v n + 1) (cE v n)).2, 0) else (S (shortGo wide p v d (n + 1)).1, (shortGo wide p v d (n + 1)).2, 0)) := by
        by_cases d1 : isP wide p (nearU v n) (cE v n)
        · rw [if_pos d1, if_pos d1]; rfl
        · rw [if_neg d1, if_neg d1]
          by_cases d2 : isP wide p (cU v n) (cE v n)
          · rw [if_pos d2, if_pos d2]
          · rw [if_neg d2, if_neg d2]
            by_cases d3 : isP wide p (cU v n + 1) (cE v n)
            · rw [if_pos d3, if_pos d3]
            · rw [if_neg d3, if_neg d3]
      rw [fin2]
      exact hpk
theorem value_ev (wide : Bool) (a : Nat) (ha : a < 18446744073709551616) (hfin : bareN wide a < ii wide) : Ev (fun k => platenref05_Value.f k (a : Int) (szB wide)) (S (exV wide (bareN wide a)).1, (exV wide (bareN wide a)).2) := by
  unfold platenref05_Value.f
  refine Ev.bind (rparts_eq wide a ha) ?_
  unfold partsS
  rw [if_pos hfin]
  have h1 := fEl wide (Nat.le_of_lt hfin)
  have h2 := fE_le wide (Nat.le_of_lt hfin)
  have hx := rexact_eq (fM (ff wide) (bareN wide a)) ((fE (ff wide) (bareN wide a) : Int) - (ll wide : Int)) (by omega)
  rw [exactS_exD _ (by omega)] at hx
  exact Ev.bind (f := fun _ bt => some (bt.1, bt.2.1)) hx (Ev.now _)
theorem rshortest_eq (wide : Bool) (a : Nat) (ha : a < 18446744073709551616) : Ev (fun k => platenref05_Shortest.f k (a : Int) (szB wide)) (shortS wide a) := by
  unfold platenref05_Shortest.f
  rw [sized_eq]
  simp only [Option.bind_some, if_true]
  refine Ev.bind (rparts_eq wide a ha) ?_
  unfold shortS
  by_cases c : bareN wide a < ii wide
  · have e : (partsS wide a).2.2.2 = 0 := by unfold partsS; rw [if_pos c]
    rw [if_neg (by omega)]
    refine Ev.congr (fun k => if_pos e) ?_
    refine Ev.bind (bare_eq wide a) ?_
    refine Ev.bind (value_ev wide a ha c) ?_
    have h := rloop_ev (exV_val wide c) (exV wide (bareN wide a)).1.length 1 (by omega) (by omega)
    by_cases c2 : bareN wide a = 0
    · rw [if_pos c2]
      have hz : exV wide 0 = ([], 0) := by
        have h0 : fM (ff wide) 0 = 0 := by cases wide <;> decide
        unfold exV exD
        rw [h0, Nat.zero_mul]
        rfl
      have hs : shortGo wide 0 (exV wide 0) (exV wide 0).1.length 1 = ([], 0) := by
        rw [hz]
        rfl
      rw [c2] at h ⊢
      rw [hs] at h
      exact h
    · rw [if_neg c2]
      exact h
  · have e : (partsS wide a).2.2.2 ≠ 0 := by
      unfold partsS
      rw [if_neg c]
      simp only
      split <;> decide
    rw [if_pos (by omega)]
    exact Ev.congr (fun k => if_neg e) (Ev.now _)
end Go.Proofs.YtmeapdchnnpceaaDoor.Pure
end
section
namespace Go.Proofs.YtmeapdchnnpceaaDoor.Fn
open Go.RowKit Go.Proofs.YtmeapdchnnpceaaDoorW.PrintWords Go.Proofs.YtmeapdchnnpceaaDoorW.PrintLast Go.Proofs.YtmeapdchnnpceaaDoorW.PrintMore
attribute [local go_sem] min2_int min_two
set_option linter.unusedVariables false
set_option linter.unusedSimpArgs false
attribute [local go_sem high] eqA28
def platenlaw05_lives.f (k : Nat)  : Option (Bool) := (short_Read.f k (⟨#[49]⟩ : ByteArray) 0 64).bind fun bt302 => ((short_Shortest.f k 4591870180066957722 64).bind fun bt304 => ((short_Parts.f 4609434218613702656 64).bind fun bt308 => (if bt302.2 = 0 then (if bt304.2.2 = 0 then (if bt302.1 = 4591870180066957722 then (if (bt304.1.toList == ([49] : List UInt8) && (bt304.2.1 == 0)) = true then (if bt308.2.1 = 6755399441055744 then (if bt308.2.2.1 = (-52) then (some (bt308.2.2.2 == 0)) else (some false)) else (some false)) else (some false)) else (some false)) else (some false)) else (some false))))
set_option maxHeartbeats 8000000 in
set_option maxRecDepth 100000 in
theorem platenlaw05_lives.calls (k : Nat)  (r : Bool) (w : World) (h : platenlaw05_lives.f k  = some r) :
  Calls Tryd.prog 15 #[] w fun e w' => e = .returned (.bool r) ∧ Below w.heap.size w w' := by
 have hu28 := Tryd.underlying28
 have HB := Aside0.mk (Below.refl w.heap.size w)
 have H : ((short_Read.f k (⟨#[49]⟩ : ByteArray) 0 64).bind fun bt302 => ((short_Shortest.f k 4591870180066957722 64).bind fun bt304 => ((short_Parts.f 4609434218613702656 64).bind fun bt308 => (if bt302.2 = 0 then (if bt304.2.2 = 0 then (if bt302.1 = 4591870180066957722 then (if (bt304.1.toList == ([49] : List UInt8) && (bt304.2.1 == 0)) = true then (if bt308.2.1 = 6755399441055744 then (if bt308.2.2.1 = (-52) then (some (bt308.2.2.2 == 0)) else (some false)) else (some false)) else (some false)) else (some false)) else (some false)) else (some false))))) = some r := h
 clear h
 replace H := bs H
 obtain ⟨⟨t302, t303⟩, A1, H⟩ := H
 dsimp only at H
 replace H := bs H
 obtain ⟨⟨t304, t305, t306⟩, A2, H⟩ := H
 dsimp only at H
 replace H := bs H
 obtain ⟨⟨t308, t309, t310, t311⟩, A3, H⟩ := H
 dsimp only at H
 by_cases c4 : t303 = 0
 ·rw [if_pos c4] at H
  obtain ⟨c4b0, c4b1⟩ := eT c4
  clear c4
  by_cases c5 : t306 = 0
  ·rw [if_pos c5] at H
   obtain ⟨c5b0, c5b1⟩ := eT c5
   clear c5
   by_cases c6 : t302 = 4591870180066957722
   ·rw [if_pos c6] at H
    obtain ⟨c6b0, c6b1⟩ := eT c6
    clear c6
    by_cases c7 : (t304.toList == ([49] : List UInt8) && (t305 == 0)) = true
    ·rw [if_pos c7] at H
     have c7b0 : (t304.toList == ([49] : List UInt8) && (t305 == 0)) = true := c7
     (try (have c7b1 : decide (t304.toList = ([49] : List UInt8) && (t305 == 0)) = true := by simpa using c7))
     (try (have c7b2 : (t304.toList == ([49] : List UInt8) && (t305 == 0)) = true := by simpa using c7))
     clear c7
     by_cases c8 : t309 = 6755399441055744
     ·rw [if_pos c8] at H
      obtain ⟨c8b0, c8b1⟩ := eT c8
      clear c8
      by_cases c9 : t310 = (-52)
      ·rw [if_pos c9] at H
       obtain ⟨c9b0, c9b1⟩ := eT c9
       clear c9
       obtain rfl := Option.some.inj H
       go_enter Tryd.func15, Tryd.ntmps15
       go_wp2_with (first | ((with_reducible refine gate_callee (f := 16) rfl ?_); refine goesL_ (some 11) rfl rfl Tryd.func16 (by kernel_rfl) rfl #[.agg #[.string (⟨#[49]⟩ : ByteArray), .int .i64 0], .int .i64 64] rfl lz ?_; (with_reducible refine (short_Read.calls k (⟨#[49]⟩ : ByteArray) 0 64 t302 t303 _ A1.out).mono ?_); rintro e w10 ⟨rfl, hb⟩; refine ⟨_, rfl, ?_⟩; replace HB := bN bz hb; (try clear hb); (try clear hb2); (try clear hk); (try clear hi)) | ((with_reducible refine gate_callee (f := 18) rfl ?_); refine goesL_ (some 15) rfl rfl Tryd.func18 (by kernel_rfl) rfl #[.int .u64 4591870180066957722, .int .i64 64] rfl lz ?_; (with_reducible refine (short_Shortest.calls k 4591870180066957722 64 t304 t305 t306 _ A2.out).mono ?_); rintro e w11 ⟨rfl, hb⟩; refine ⟨_, rfl, ?_⟩; replace HB := bN bz hb; (try clear hb); (try clear hb2); (try clear hk); (try clear hi)) | ((with_reducible refine gate_dst (N := 3) rfl ?_); refine box_event rfl (N := 3) rfl (cs := #[.string (⟨#[]⟩ : ByteArray), .int .i64 0]) (t := 28) gz ?_; intro gb307 hg w12 hbox hb; have GW307 := gN bz hg; have GE307 := gN bz hg; have BK307 := Aside0.mk hbox; replace HB := bN bz hb; clear hb hbox hg; obtain ⟨hcz13_0, hcz13_1, hfz13_0, hfz13_1⟩ := cz2 (W := w12) BK307) | ((with_reducible refine gate_callee (f := 13) rfl ?_); refine goesL_ (some 19) rfl rfl Tryd.func13 (by kernel_rfl) rfl #[.int .u64 4609434218613702656, .int .i64 64] rfl lz ?_; (with_reducible refine (short_Parts.calls 4609434218613702656 64 t308 t309 t310 t311 _ A3.out).mono ?_); rintro e w14 ⟨rfl, hb⟩; refine ⟨_, rfl, ?_⟩; replace BK307 := kN (g := gb307) (cs := #[.string t304, .int .i64 t305]) hb bk; replace HB := bN bz hb; (try clear hb); (try clear hb2); (try clear hk); (try clear hi); obtain ⟨hcz15_0, hcz15_1, hfz15_0, hfz15_1⟩ := cz2 (W := w14) BK307))
       go_ret
       exact ⟨ez, bz⟩
      ·rw [if_neg c9] at H
       obtain ⟨c9b0, c9b1⟩ := eF c9
       obtain rfl := Option.some.inj H
       go_enter Tryd.func15, Tryd.ntmps15
       go_wp2_with (first | ((with_reducible refine gate_callee (f := 16) rfl ?_); refine goesL_ (some 11) rfl rfl Tryd.func16 (by kernel_rfl) rfl #[.agg #[.string (⟨#[49]⟩ : ByteArray), .int .i64 0], .int .i64 64] rfl lz ?_; (with_reducible refine (short_Read.calls k (⟨#[49]⟩ : ByteArray) 0 64 t302 t303 _ A1.out).mono ?_); rintro e w16 ⟨rfl, hb⟩; refine ⟨_, rfl, ?_⟩; replace HB := bN bz hb; (try clear hb); (try clear hb2); (try clear hk); (try clear hi)) | ((with_reducible refine gate_callee (f := 18) rfl ?_); refine goesL_ (some 15) rfl rfl Tryd.func18 (by kernel_rfl) rfl #[.int .u64 4591870180066957722, .int .i64 64] rfl lz ?_; (with_reducible refine (short_Shortest.calls k 4591870180066957722 64 t304 t305 t306 _ A2.out).mono ?_); rintro e w17 ⟨rfl, hb⟩; refine ⟨_, rfl, ?_⟩; replace HB := bN bz hb; (try clear hb); (try clear hb2); (try clear hk); (try clear hi)) | ((with_reducible refine gate_dst (N := 3) rfl ?_); refine box_event rfl (N := 3) rfl (cs := #[.string (⟨#[]⟩ : ByteArray), .int .i64 0]) (t := 28) gz ?_; intro gb307 hg w18 hbox hb; have GW307 := gN bz hg; have GE307 := gN bz hg; have BK307 := Aside0.mk hbox; replace HB := bN bz hb; clear hb hbox hg; obtain ⟨hcz19_0, hcz19_1, hfz19_0, hfz19_1⟩ := cz2 (W := w18) BK307) | ((with_reducible refine gate_callee (f := 13) rfl ?_); refine goesL_ (some 19) rfl rfl Tryd.func13 (by kernel_rfl) rfl #[.int .u64 4609434218613702656, .int .i64 64] rfl lz ?_; (with_reducible refine (short_Parts.calls 4609434218613702656 64 t308 t309 t310 t311 _ A3.out).mono ?_); rintro e w20 ⟨rfl, hb⟩; refine ⟨_, rfl, ?_⟩; replace BK307 := kN (g := gb307) (cs := #[.string t304, .int .i64 t305]) hb bk; replace HB := bN bz hb; (try clear hb); (try clear hb2); (try clear hk); (try clear hi); obtain ⟨hcz21_0, hcz21_1, hfz21_0, hfz21_1⟩ := cz2 (W := w20) BK307))
       go_ret
       exact ⟨ez, bz⟩
     ·rw [if_neg c8] at H
      obtain ⟨c8b0, c8b1⟩ := eF c8
      obtain rfl := Option.some.inj H
      go_enter Tryd.func15, Tryd.ntmps15
      go_wp2_with (first | ((with_reducible refine gate_callee (f := 16) rfl ?_); refine goesL_ (some 11) rfl rfl Tryd.func16 (by kernel_rfl) rfl #[.agg #[.string (⟨#[49]⟩ : ByteArray), .int .i64 0], .int .i64 64] rfl lz ?_; (with_reducible refine (short_Read.calls k (⟨#[49]⟩ : ByteArray) 0 64 t302 t303 _ A1.out).mono ?_); rintro e w22 ⟨rfl, hb⟩; refine ⟨_, rfl, ?_⟩; replace HB := bN bz hb; (try clear hb); (try clear hb2); (try clear hk); (try clear hi)) | ((with_reducible refine gate_callee (f := 18) rfl ?_); refine goesL_ (some 15) rfl rfl Tryd.func18 (by kernel_rfl) rfl #[.int .u64 4591870180066957722, .int .i64 64] rfl lz ?_; (with_reducible refine (short_Shortest.calls k 4591870180066957722 64 t304 t305 t306 _ A2.out).mono ?_); rintro e w23 ⟨rfl, hb⟩; refine ⟨_, rfl, ?_⟩; replace HB := bN bz hb; (try clear hb); (try clear hb2); (try clear hk); (try clear hi)) | ((with_reducible refine gate_dst (N := 3) rfl ?_); refine box_event rfl (N := 3) rfl (cs := #[.string (⟨#[]⟩ : ByteArray), .int .i64 0]) (t := 28) gz ?_; intro gb307 hg w24 hbox hb; have GW307 := gN bz hg; have GE307 := gN bz hg; have BK307 := Aside0.mk hbox; replace HB := bN bz hb; clear hb hbox hg; obtain ⟨hcz25_0, hcz25_1, hfz25_0, hfz25_1⟩ := cz2 (W := w24) BK307) | ((with_reducible refine gate_callee (f := 13) rfl ?_); refine goesL_ (some 19) rfl rfl Tryd.func13 (by kernel_rfl) rfl #[.int .u64 4609434218613702656, .int .i64 64] rfl lz ?_; (with_reducible refine (short_Parts.calls 4609434218613702656 64 t308 t309 t310 t311 _ A3.out).mono ?_); rintro e w26 ⟨rfl, hb⟩; refine ⟨_, rfl, ?_⟩; replace BK307 := kN (g := gb307) (cs := #[.string t304, .int .i64 t305]) hb bk; replace HB := bN bz hb; (try clear hb); (try clear hb2); (try clear hk); (try clear hi); obtain ⟨hcz27_0, hcz27_1, hfz27_0, hfz27_1⟩ := cz2 (W := w26) BK307))
      go_ret
      exact ⟨ez, bz⟩
    ·rw [if_neg c7] at H
     have c7b0 : (t304.toList == ([49] : List UInt8) && (t305 == 0)) = false := by simpa using c7
     (try (have c7b1 : decide (t304.toList = ([49] : List UInt8) && (t305 == 0)) = false := by simpa using c7))
     (try (have c7b2 : (t304.toList == ([49] : List UInt8) && (t305 == 0)) = false := by simpa using c7))
     (try (have c7b3 : ¬ (t304.toList = ([49] : List UInt8) && (t305 == 0)) := by simpa using c7))
     clear c7
     obtain rfl := Option.some.inj H
     go_enter Tryd.func15, Tryd.ntmps15
     go_wp2_with (first | ((with_reducible refine gate_callee (f := 16) rfl ?_); refine goesL_ (some 11) rfl rfl Tryd.func16 (by kernel_rfl) rfl #[.agg #[.string (⟨#[49]⟩ : ByteArray), .int .i64 0], .int .i64 64] rfl lz ?_; (with_reducible refine (short_Read.calls k (⟨#[49]⟩ : ByteArray) 0 64 t302 t303 _ A1.out).mono ?_); rintro e w28 ⟨rfl, hb⟩; refine ⟨_, rfl, ?_⟩; replace HB := bN bz hb; (try clear hb); (try clear hb2); (try clear hk); (try clear hi)) | ((with_reducible refine gate_callee (f := 18) rfl ?_); refine goesL_ (some 15) rfl rfl Tryd.func18 (by kernel_rfl) rfl #[.int .u64 4591870180066957722, .int .i64 64] rfl lz ?_; (with_reducible refine (short_Shortest.calls k 4591870180066957722 64 t304 t305 t306 _ A2.out).mono ?_); rintro e w29 ⟨rfl, hb⟩; refine ⟨_, rfl, ?_⟩; replace HB := bN bz hb; (try clear hb); (try clear hb2); (try clear hk); (try clear hi)) | ((with_reducible refine gate_dst (N := 3) rfl ?_); refine box_event rfl (N := 3) rfl (cs := #[.string (⟨#[]⟩ : ByteArray), .int .i64 0]) (t := 28) gz ?_; intro gb307 hg w30 hbox hb; have GW307 := gN bz hg; have GE307 := gN bz hg; have BK307 := Aside0.mk hbox; replace HB := bN bz hb; clear hb hbox hg; obtain ⟨hcz31_0, hcz31_1, hfz31_0, hfz31_1⟩ := cz2 (W := w30) BK307) | ((with_reducible refine gate_callee (f := 13) rfl ?_); refine goesL_ (some 19) rfl rfl Tryd.func13 (by kernel_rfl) rfl #[.int .u64 4609434218613702656, .int .i64 64] rfl lz ?_; (with_reducible refine (short_Parts.calls 4609434218613702656 64 t308 t309 t310 t311 _ A3.out).mono ?_); rintro e w32 ⟨rfl, hb⟩; refine ⟨_, rfl, ?_⟩; replace BK307 := kN (g := gb307) (cs := #[.string t304, .int .i64 t305]) hb bk; replace HB := bN bz hb; (try clear hb); (try clear hb2); (try clear hk); (try clear hi); obtain ⟨hcz33_0, hcz33_1, hfz33_0, hfz33_1⟩ := cz2 (W := w32) BK307))
     go_ret
     exact ⟨ez, bz⟩
   ·rw [if_neg c6] at H
    obtain ⟨c6b0, c6b1⟩ := eF c6
    obtain rfl := Option.some.inj H
    go_enter Tryd.func15, Tryd.ntmps15
    go_wp2_with (first | ((with_reducible refine gate_callee (f := 16) rfl ?_); refine goesL_ (some 11) rfl rfl Tryd.func16 (by kernel_rfl) rfl #[.agg #[.string (⟨#[49]⟩ : ByteArray), .int .i64 0], .int .i64 64] rfl lz ?_; (with_reducible refine (short_Read.calls k (⟨#[49]⟩ : ByteArray) 0 64 t302 t303 _ A1.out).mono ?_); rintro e w34 ⟨rfl, hb⟩; refine ⟨_, rfl, ?_⟩; replace HB := bN bz hb; (try clear hb); (try clear hb2); (try clear hk); (try clear hi)) | ((with_reducible refine gate_callee (f := 18) rfl ?_); refine goesL_ (some 15) rfl rfl Tryd.func18 (by kernel_rfl) rfl #[.int .u64 4591870180066957722, .int .i64 64] rfl lz ?_; (with_reducible refine (short_Shortest.calls k 4591870180066957722 64 t304 t305 t306 _ A2.out).mono ?_); rintro e w35 ⟨rfl, hb⟩; refine ⟨_, rfl, ?_⟩; replace HB := bN bz hb; (try clear hb); (try clear hb2); (try clear hk); (try clear hi)) | ((with_reducible refine gate_dst (N := 3) rfl ?_); refine box_event rfl (N := 3) rfl (cs := #[.string (⟨#[]⟩ : ByteArray), .int .i64 0]) (t := 28) gz ?_; intro gb307 hg w36 hbox hb; have GW307 := gN bz hg; have GE307 := gN bz hg; have BK307 := Aside0.mk hbox; replace HB := bN bz hb; clear hb hbox hg; obtain ⟨hcz37_0, hcz37_1, hfz37_0, hfz37_1⟩ := cz2 (W := w36) BK307) | ((with_reducible refine gate_callee (f := 13) rfl ?_); refine goesL_ (some 19) rfl rfl Tryd.func13 (by kernel_rfl) rfl #[.int .u64 4609434218613702656, .int .i64 64] rfl lz ?_; (with_reducible refine (short_Parts.calls 4609434218613702656 64 t308 t309 t310 t311 _ A3.out).mono ?_); rintro e w38 ⟨rfl, hb⟩; refine ⟨_, rfl, ?_⟩; replace BK307 := kN (g := gb307) (cs := #[.string t304, .int .i64 t305]) hb bk; replace HB := bN bz hb; (try clear hb); (try clear hb2); (try clear hk); (try clear hi)))
    go_ret
    exact ⟨ez, bz⟩
  ·rw [if_neg c5] at H
   obtain ⟨c5b0, c5b1⟩ := eF c5
   obtain rfl := Option.some.inj H
   go_enter Tryd.func15, Tryd.ntmps15
   go_wp2_with (first | ((with_reducible refine gate_callee (f := 16) rfl ?_); refine goesL_ (some 11) rfl rfl Tryd.func16 (by kernel_rfl) rfl #[.agg #[.string (⟨#[49]⟩ : ByteArray), .int .i64 0], .int .i64 64] rfl lz ?_; (with_reducible refine (short_Read.calls k (⟨#[49]⟩ : ByteArray) 0 64 t302 t303 _ A1.out).mono ?_); rintro e w39 ⟨rfl, hb⟩; refine ⟨_, rfl, ?_⟩; replace HB := bN bz hb; (try clear hb); (try clear hb2); (try clear hk); (try clear hi)) | ((with_reducible refine gate_callee (f := 18) rfl ?_); refine goesL_ (some 15) rfl rfl Tryd.func18 (by kernel_rfl) rfl #[.int .u64 4591870180066957722, .int .i64 64] rfl lz ?_; (with_reducible refine (short_Shortest.calls k 4591870180066957722 64 t304 t305 t306 _ A2.out).mono ?_); rintro e w40 ⟨rfl, hb⟩; refine ⟨_, rfl, ?_⟩; replace HB := bN bz hb; (try clear hb); (try clear hb2); (try clear hk); (try clear hi)) | ((with_reducible refine gate_dst (N := 3) rfl ?_); refine box_event rfl (N := 3) rfl (cs := #[.string (⟨#[]⟩ : ByteArray), .int .i64 0]) (t := 28) gz ?_; intro gb307 hg w41 hbox hb; have GW307 := gN bz hg; have GE307 := gN bz hg; have BK307 := Aside0.mk hbox; replace HB := bN bz hb; clear hb hbox hg; obtain ⟨hcz42_0, hcz42_1, hfz42_0, hfz42_1⟩ := cz2 (W := w41) BK307) | ((with_reducible refine gate_callee (f := 13) rfl ?_); refine goesL_ (some 19) rfl rfl Tryd.func13 (by kernel_rfl) rfl #[.int .u64 4609434218613702656, .int .i64 64] rfl lz ?_; (with_reducible refine (short_Parts.calls 4609434218613702656 64 t308 t309 t310 t311 _ A3.out).mono ?_); rintro e w43 ⟨rfl, hb⟩; refine ⟨_, rfl, ?_⟩; replace BK307 := kN (g := gb307) (cs := #[.string t304, .int .i64 t305]) hb bk; replace HB := bN bz hb; (try clear hb); (try clear hb2); (try clear hk); (try clear hi)))
   go_ret
   exact ⟨ez, bz⟩
 ·rw [if_neg c4] at H
  obtain ⟨c4b0, c4b1⟩ := eF c4
  obtain rfl := Option.some.inj H
  go_enter Tryd.func15, Tryd.ntmps15
  go_wp2_with (first | ((with_reducible refine gate_callee (f := 16) rfl ?_); refine goesL_ (some 11) rfl rfl Tryd.func16 (by kernel_rfl) rfl #[.agg #[.string (⟨#[49]⟩ : ByteArray), .int .i64 0], .int .i64 64] rfl lz ?_; (with_reducible refine (short_Read.calls k (⟨#[49]⟩ : ByteArray) 0 64 t302 t303 _ A1.out).mono ?_); rintro e w44 ⟨rfl, hb⟩; refine ⟨_, rfl, ?_⟩; replace HB := bN bz hb; (try clear hb); (try clear hb2); (try clear hk); (try clear hi)) | ((with_reducible refine gate_callee (f := 18) rfl ?_); refine goesL_ (some 15) rfl rfl Tryd.func18 (by kernel_rfl) rfl #[.int .u64 4591870180066957722, .int .i64 64] rfl lz ?_; (with_reducible refine (short_Shortest.calls k 4591870180066957722 64 t304 t305 t306 _ A2.out).mono ?_); rintro e w45 ⟨rfl, hb⟩; refine ⟨_, rfl, ?_⟩; replace HB := bN bz hb; (try clear hb); (try clear hb2); (try clear hk); (try clear hi)) | ((with_reducible refine gate_dst (N := 3) rfl ?_); refine box_event rfl (N := 3) rfl (cs := #[.string (⟨#[]⟩ : ByteArray), .int .i64 0]) (t := 28) gz ?_; intro gb307 hg w46 hbox hb; have GW307 := gN bz hg; have GE307 := gN bz hg; have BK307 := Aside0.mk hbox; replace HB := bN bz hb; clear hb hbox hg; obtain ⟨hcz47_0, hcz47_1, hfz47_0, hfz47_1⟩ := cz2 (W := w46) BK307) | ((with_reducible refine gate_callee (f := 13) rfl ?_); refine goesL_ (some 19) rfl rfl Tryd.func13 (by kernel_rfl) rfl #[.int .u64 4609434218613702656, .int .i64 64] rfl lz ?_; (with_reducible refine (short_Parts.calls 4609434218613702656 64 t308 t309 t310 t311 _ A3.out).mono ?_); rintro e w48 ⟨rfl, hb⟩; refine ⟨_, rfl, ?_⟩; replace BK307 := kN (g := gb307) (cs := #[.string t304, .int .i64 t305]) hb bk; replace HB := bN bz hb; (try clear hb); (try clear hb2); (try clear hk); (try clear hi)))
  go_ret
  exact ⟨ez, bz⟩
end Go.Proofs.YtmeapdchnnpceaaDoor.Fn
end
section
namespace Go.Proofs.YtmeapdchnnpceaaDoor.Pure
open Go.RowKit Go.Proofs.YtmeapdchnnpceaaDoorW.PrintWords Go.Proofs.YtmeapdchnnpceaaDoor.Fn
set_option linter.unusedVariables false
set_option linter.unusedSimpArgs false
theorem tenth_W : ∃ p, p + 1 = 4591870180066957722 ∧ p < 9218868437227405312 ∧ fW 52 p * 20 ≤ 2 ^ 1075 ∧ 2 ^ 1075 < fW 52 (p + 1) * 20 ∧ (fW 52 p + fW 52 (p + 1)) * 10 < 2 ^ 1075 := ⟨4591870180066957721, by decide +kernel⟩
theorem tenth_X (wide : Bool) : dX wide 1 (-1) * 10 = CC * 2 ^ uu wide := by
  have hv := vv_eq
  obtain ⟨u, hu⟩ : ∃ u, vv = u + 1 := ⟨vv - 1, by omega⟩
  unfold dX CC
  rw [hu, show (-1 + ((u + 1 : Nat) : Int)).toNat = u by omega, Nat.pow_succ, Nat.one_mul]
  rw [Nat.mul_assoc, Nat.mul_comm (2 ^ uu wide), ← Nat.mul_assoc]
theorem times10 {a X C L : Nat} (hX : X * 10 = C * L) (hC : 0 < C) : (a * (2 * C) ≤ X ↔ a * 20 ≤ L) ∧ (X < a * (2 * C) ↔ L < a * 20) ∧ (a * C < X ↔ a * 10 < L) := by
  have e1 : a * (2 * C) * 10 = C * (a * 20) := by
    rw [show (20 : Nat) = 2 * 10 from rfl]
    simp only [Nat.mul_assoc, Nat.mul_comm, Nat.mul_left_comm]
  have e2 : a * C * 10 = C * (a * 10) := by simp only [Nat.mul_assoc, Nat.mul_comm, Nat.mul_left_comm]
  refine ⟨?_, ?_, ?_⟩
  · rw [← Nat.mul_le_mul_right_iff (show 0 < 10 by decide), e1, hX, Nat.mul_le_mul_left_iff hC]
  · rw [← Nat.mul_lt_mul_right (show 0 < 10 by decide), e1, hX, Nat.mul_lt_mul_left hC]
  · rw [← Nat.mul_lt_mul_right (show 0 < 10 by decide), e2, hX, Nat.mul_lt_mul_left hC]
theorem tenth_read : rdX true (dX true 1 (-1)) = 4591870180066957722 := by
  obtain ⟨p, hp, hi, w1, w2, w3⟩ := tenth_W
  have hX := tenth_X true
  have hu : uu true = 1075 := rfl
  have hf : ff true = 52 := rfl
  have hii : ii true = 9218868437227405312 := rfl
  obtain ⟨L, hL⟩ : ∃ L, 2 ^ 1075 = L := ⟨_, rfl⟩
  rw [hu, hL] at hX
  rw [hL] at w1 w2 w3
  have hfl : fFloor (ff true) (ii true) (dX true 1 (-1)) (2 * CC) p := by
    rw [hf, hii]
    exact ⟨Nat.le_of_lt hi, (times10 hX CC_pos).1.2 w1, fun _ => (times10 hX CC_pos).2.1.2 w2⟩
  rw [rd_at true hfl, if_neg (by omega), hf, if_pos (.inl ((times10 hX CC_pos).2.2.2 w3))]
  exact hp
def tenthL : List UInt8 := [49,48,48,48,48,48,48,48,48,48,48,48,48,48,48,48,48,53,53,53,49,49,49,53,49,50,51,49,50,53,55,56,50,55,48,50,49,49,56,49,53,56,51,52,48,52,53,52,49,48,49,53,54,50,53]
theorem tenth_v : exV true 4591870180066957722 = (tenthL, 0) := by decide +kernel
theorem tenth_short : shortD true 4591870180066957722 = ([49], 0) := by
  unfold shortD
  rw [tenth_v]
  have hl : tenthL.length = 54 + 1 := by decide
  show shortGo true _ (tenthL, 0) tenthL.length 1 = _
  have hn : nearU (tenthL, 0) 1 = 1 := by decide +kernel
  have hE : cE (tenthL, 0) 1 = -1 := by unfold cE; rfl
  have hb : bestD true 4591870180066957722 (tenthL, 0) 1 = some ([49], 0) := by
    unfold bestD
    rw [if_neg (by rw [hl]; decide), hn, hE, if_pos (show isP true 4591870180066957722 1 (-1) from tenth_read)]
    rfl
  rw [hl, shortGo_step, hb]
  rfl
theorem short_tenth : shortS true 4591870180066957722 = (S [49], 0, 0) := by
  have hb : bareN true 4591870180066957722 = 4591870180066957722 := by decide
  unfold shortS
  rw [hb, if_neg (by decide), if_neg (by decide), tenth_short]
theorem read_tenth : rdS true (S [49]) 0 = (4591870180066957722, 0) := by
  have h1 : InForm ([49] : List UInt8) 0 := ⟨allD_one, fun c t h => by
    injection h with h1 h2
    rw [← h1]; decide, rfl, fun h => by cases h⟩
  rw [rdS_five true h1 (by decide)]
  have : dX true (val [49]) (0 - (([49] : List UInt8).length : Int)) = dX true 1 (-1) := by rw [val_one]; rfl
  rw [this, tenth_read]
  rfl
theorem parts_ex : partsS true 4609434218613702656 = (false, 6755399441055744, -52, 0) := by decide +kernel
theorem lives5 : Ev (fun k => platenlaw05_lives.f k) true := by
  have h1 := read_eq true (S [49]) 0
  rw [read_tenth] at h1
  have h2 := shortest_eq true 4591870180066957722 (by decide)
  rw [short_tenth] at h2
  have h3 := parts_eq true 4609434218613702656 (by decide)
  rw [parts_ex] at h3
  unfold platenlaw05_lives.f
  refine Ev.bind (g := fun k => short_Read.f k (⟨#[49]⟩ : ByteArray) 0 64) h1 ?_
  refine Ev.bind (g := fun k => short_Shortest.f k 4591870180066957722 64) h2 ?_
  refine Ev.congr (fun k => ?_) (Ev.now _)
  rw [show short_Parts.f 4609434218613702656 64 = some (false, 6755399441055744, -52, 0) from h3]
  simp [toList_L, L_S]
theorem livesEnd : Ev (fun k => (platenlaw05_lives.f k).bind fun t => some t) true := Ev.bind lives5 (Ev.now _)
theorem wf_u64 {a : Int} (h : (Lit.int .u64 a).wf = true) : ∃ n : Nat, a = n ∧ n < 18446744073709551616 := by
  have h2 : 0 ≤ a ∧ a < 18446744073709551616 := by
    simp [Lit.wf, IntKind.min, IntKind.max, IntKind.bits, IntKind.signed] at h
    omega
  exact ⟨a.toNat, by omega, by omega⟩
end Go.Proofs.YtmeapdchnnpceaaDoor.Pure
end
section
namespace Go.Proofs.YtmeapdchnnpceaaDoor.Fn
open Go.RowKit Go.Proofs.YtmeapdchnnpceaaDoorW.PrintWords Go.Proofs.YtmeapdchnnpceaaDoorW.PrintLast Go.Proofs.YtmeapdchnnpceaaDoorW.PrintMore
attribute [local go_sem] min2_int min_two
set_option linter.unusedVariables false
set_option linter.unusedSimpArgs false
attribute [local go_sem high] eqA28
def platenlaw05_ShortDigits.f (k : Nat) (a0 : Int) (a1 : Int) : Option (Bool) := (short_Shortest.f k a0 a1).bind fun bt526 => ((platenref05_Shortest.f k a0 a1).bind fun bt530 => (if (bt526.1.toList == bt530.1.toList && (bt526.2.1 == bt530.2.1)) = true then (if bt526.2.2 = bt530.2.2 then ((platenlaw05_lives.f k).bind fun t534 => (some t534)) else (some false)) else (some false)))
set_option maxHeartbeats 8000000 in
set_option maxRecDepth 100000 in
theorem platenlaw05_ShortDigits.calls (k : Nat) (a0 : Int) (a1 : Int) (r : Bool) (w : World) (h : platenlaw05_ShortDigits.f k a0 a1 = some r) :
  Calls Tryd.prog 5 #[.int .u64 a0, .int .i64 a1] w fun e w' => e = .returned (.bool r) ∧ Below w.heap.size w w' := by
 have hu28 := Tryd.underlying28
 have HB := Aside0.mk (Below.refl w.heap.size w)
 have H : ((short_Shortest.f k a0 a1).bind fun bt526 => ((platenref05_Shortest.f k a0 a1).bind fun bt530 => (if (bt526.1.toList == bt530.1.toList && (bt526.2.1 == bt530.2.1)) = true then (if bt526.2.2 = bt530.2.2 then ((platenlaw05_lives.f k).bind fun t534 => (some t534)) else (some false)) else (some false)))) = some r := h
 clear h
 replace H := bs H
 obtain ⟨⟨t526, t527, t528⟩, A3, H⟩ := H
 dsimp only at H
 replace H := bs H
 obtain ⟨⟨t530, t531, t532⟩, A4, H⟩ := H
 dsimp only at H
 by_cases c5 : (t526.toList == t530.toList && (t527 == t531)) = true
 ·rw [if_pos c5] at H
  have c5b0 : (t526.toList == t530.toList && (t527 == t531)) = true := c5
  (try (have c5b1 : decide (t526.toList = t530.toList && (t527 == t531)) = true := by simpa using c5))
  (try (have c5b2 : (t526.toList == t530.toList && (t527 == t531)) = true := by simpa using c5))
  clear c5
  by_cases c6 : t528 = t532
  ·rw [if_pos c6] at H
   obtain ⟨c6b0, c6b1⟩ := eT c6
   clear c6
   replace H := bs H
   obtain ⟨t534, A7, H⟩ := H
   obtain rfl := Option.some.inj H
   go_enter Tryd.func5, Tryd.ntmps5
   go_wp2_with (first | ((with_reducible refine gate_callee (f := 18) rfl ?_); refine goesL_ (some 12) rfl rfl Tryd.func18 (by kernel_rfl) rfl #[.int .u64 a0, .int .i64 a1] rfl lz ?_; (with_reducible refine (short_Shortest.calls k a0 a1 t526 t527 t528 _ A3.out).mono ?_); rintro e w8 ⟨rfl, hb⟩; refine ⟨_, rfl, ?_⟩; replace HB := bN bz hb; (try clear hb); (try clear hb2); (try clear hk); (try clear hi)) | ((with_reducible refine gate_dst (N := 5) rfl ?_); refine box_event rfl (N := 5) rfl (cs := #[.string (⟨#[]⟩ : ByteArray), .int .i64 0]) (t := 28) gz ?_; intro gb529 hg w9 hbox hb; have GW529 := gN bz hg; have GE529 := gN bz hg; have BK529 := Aside0.mk hbox; replace HB := bN bz hb; clear hb hbox hg; obtain ⟨hcz10_0, hcz10_1, hfz10_0, hfz10_1⟩ := cz2 (W := w9) BK529) | ((with_reducible refine gate_callee (f := 19) rfl ?_); refine goesL_ (some 18) rfl rfl Tryd.func19 (by kernel_rfl) rfl #[.int .u64 a0, .int .i64 a1] rfl lz ?_; (with_reducible refine (platenref05_Shortest.calls k a0 a1 t530 t531 t532 _ A4.out).mono ?_); rintro e w11 ⟨rfl, hb⟩; refine ⟨_, rfl, ?_⟩; replace BK529 := kN (g := gb529) (cs := #[.string t526, .int .i64 t527]) hb bk; replace HB := bN bz hb; (try clear hb); (try clear hb2); (try clear hk); (try clear hi)) | ((with_reducible refine gate_dst (N := 7) rfl ?_); refine box_event rfl (N := 7) rfl (cs := #[.string (⟨#[]⟩ : ByteArray), .int .i64 0]) (t := 28) gz ?_; intro gb533 hg w12 hbox hb; have GW533 := gN bz hg; have GE533 := gN bz hg; have NB529_533 := lN (g := gb529) (cs := #[.string t526, .int .i64 t527]) hg bk; have NB533_529 := rN (g := gb529) (cs := #[.string t526, .int .i64 t527]) hg bk; replace BK529 := kN (g := gb529) (cs := #[.string t526, .int .i64 t527]) hb bk; have BK533 := Aside0.mk hbox; replace HB := bN bz hb; clear hb hbox hg; have hnb13 := NB533_529.out; have hnc13 := NB529_533.out; obtain ⟨hcz14_0, hcz14_1, hfz14_0, hfz14_1⟩ := cz2 (W := w12) BK533; obtain ⟨hcz15_0, hcz15_1, hfz15_0, hfz15_1⟩ := cz2 (W := w12) BK529) | (go_at_call 15; (with_reducible refine (platenlaw05_lives.calls k  t534 _ A7.out).mono ?_); rintro e w16 ⟨rfl, hb⟩; replace BK529 := kN (g := gb529) (cs := #[.string t526, .int .i64 t527]) hb bk; replace BK533 := kN (g := gb533) (cs := #[.string t530, .int .i64 t531]) hb bk; replace HB := bN bz hb; (try clear hb); (try clear hb2); (try clear hk); (try clear hi)))
   go_ret
   exact ⟨ez, bz⟩
  ·rw [if_neg c6] at H
   obtain ⟨c6b0, c6b1⟩ := eF c6
   obtain rfl := Option.some.inj H
   go_enter Tryd.func5, Tryd.ntmps5
   go_wp2_with (first | ((with_reducible refine gate_callee (f := 18) rfl ?_); refine goesL_ (some 12) rfl rfl Tryd.func18 (by kernel_rfl) rfl #[.int .u64 a0, .int .i64 a1] rfl lz ?_; (with_reducible refine (short_Shortest.calls k a0 a1 t526 t527 t528 _ A3.out).mono ?_); rintro e w17 ⟨rfl, hb⟩; refine ⟨_, rfl, ?_⟩; replace HB := bN bz hb; (try clear hb); (try clear hb2); (try clear hk); (try clear hi)) | ((with_reducible refine gate_dst (N := 5) rfl ?_); refine box_event rfl (N := 5) rfl (cs := #[.string (⟨#[]⟩ : ByteArray), .int .i64 0]) (t := 28) gz ?_; intro gb529 hg w18 hbox hb; have GW529 := gN bz hg; have GE529 := gN bz hg; have BK529 := Aside0.mk hbox; replace HB := bN bz hb; clear hb hbox hg; obtain ⟨hcz19_0, hcz19_1, hfz19_0, hfz19_1⟩ := cz2 (W := w18) BK529) | ((with_reducible refine gate_callee (f := 19) rfl ?_); refine goesL_ (some 18) rfl rfl Tryd.func19 (by kernel_rfl) rfl #[.int .u64 a0, .int .i64 a1] rfl lz ?_; (with_reducible refine (platenref05_Shortest.calls k a0 a1 t530 t531 t532 _ A4.out).mono ?_); rintro e w20 ⟨rfl, hb⟩; refine ⟨_, rfl, ?_⟩; replace BK529 := kN (g := gb529) (cs := #[.string t526, .int .i64 t527]) hb bk; replace HB := bN bz hb; (try clear hb); (try clear hb2); (try clear hk); (try clear hi)) | ((with_reducible refine gate_dst (N := 7) rfl ?_); refine box_event rfl (N := 7) rfl (cs := #[.string (⟨#[]⟩ : ByteArray), .int .i64 0]) (t := 28) gz ?_; intro gb533 hg w21 hbox hb; have GW533 := gN bz hg; have GE533 := gN bz hg; have NB529_533 := lN (g := gb529) (cs := #[.string t526, .int .i64 t527]) hg bk; have NB533_529 := rN (g := gb529) (cs := #[.string t526, .int .i64 t527]) hg bk; replace BK529 := kN (g := gb529) (cs := #[.string t526, .int .i64 t527]) hb bk; have BK533 := Aside0.mk hbox; replace HB := bN bz hb; clear hb hbox hg; have hnb22 := NB533_529.out; have hnc22 := NB529_533.out; obtain ⟨hcz23_0, hcz23_1, hfz23_0, hfz23_1⟩ := cz2 (W := w21) BK533; obtain ⟨hcz24_0, hcz24_1, hfz24_0, hfz24_1⟩ := cz2 (W := w21) BK529))
   go_ret
   exact ⟨ez, bz⟩
 ·rw [if_neg c5] at H
  have c5b0 : (t526.toList == t530.toList && (t527 == t531)) = false := by simpa using c5
  (try (have c5b1 : decide (t526.toList = t530.toList && (t527 == t531)) = false := by simpa using c5))
  (try (have c5b2 : (t526.toList == t530.toList && (t527 == t531)) = false := by simpa using c5))
  (try (have c5b3 : ¬ (t526.toList = t530.toList && (t527 == t531)) := by simpa using c5))
  clear c5
  obtain rfl := Option.some.inj H
  go_enter Tryd.func5, Tryd.ntmps5
  go_wp2_with (first | ((with_reducible refine gate_callee (f := 18) rfl ?_); refine goesL_ (some 12) rfl rfl Tryd.func18 (by kernel_rfl) rfl #[.int .u64 a0, .int .i64 a1] rfl lz ?_; (with_reducible refine (short_Shortest.calls k a0 a1 t526 t527 t528 _ A3.out).mono ?_); rintro e w25 ⟨rfl, hb⟩; refine ⟨_, rfl, ?_⟩; replace HB := bN bz hb; (try clear hb); (try clear hb2); (try clear hk); (try clear hi)) | ((with_reducible refine gate_dst (N := 5) rfl ?_); refine box_event rfl (N := 5) rfl (cs := #[.string (⟨#[]⟩ : ByteArray), .int .i64 0]) (t := 28) gz ?_; intro gb529 hg w26 hbox hb; have GW529 := gN bz hg; have GE529 := gN bz hg; have BK529 := Aside0.mk hbox; replace HB := bN bz hb; clear hb hbox hg; obtain ⟨hcz27_0, hcz27_1, hfz27_0, hfz27_1⟩ := cz2 (W := w26) BK529) | ((with_reducible refine gate_callee (f := 19) rfl ?_); refine goesL_ (some 18) rfl rfl Tryd.func19 (by kernel_rfl) rfl #[.int .u64 a0, .int .i64 a1] rfl lz ?_; (with_reducible refine (platenref05_Shortest.calls k a0 a1 t530 t531 t532 _ A4.out).mono ?_); rintro e w28 ⟨rfl, hb⟩; refine ⟨_, rfl, ?_⟩; replace BK529 := kN (g := gb529) (cs := #[.string t526, .int .i64 t527]) hb bk; replace HB := bN bz hb; (try clear hb); (try clear hb2); (try clear hk); (try clear hi)) | ((with_reducible refine gate_dst (N := 7) rfl ?_); refine box_event rfl (N := 7) rfl (cs := #[.string (⟨#[]⟩ : ByteArray), .int .i64 0]) (t := 28) gz ?_; intro gb533 hg w29 hbox hb; have GW533 := gN bz hg; have GE533 := gN bz hg; have NB529_533 := lN (g := gb529) (cs := #[.string t526, .int .i64 t527]) hg bk; have NB533_529 := rN (g := gb529) (cs := #[.string t526, .int .i64 t527]) hg bk; replace BK529 := kN (g := gb529) (cs := #[.string t526, .int .i64 t527]) hb bk; have BK533 := Aside0.mk hbox; replace HB := bN bz hb; clear hb hbox hg; have hnb30 := NB533_529.out; have hnc30 := NB529_533.out; obtain ⟨hcz31_0, hcz31_1, hfz31_0, hfz31_1⟩ := cz2 (W := w29) BK533; obtain ⟨hcz32_0, hcz32_1, hfz32_0, hfz32_1⟩ := cz2 (W := w29) BK529))
  go_ret
  exact ⟨ez, bz⟩
end Go.Proofs.YtmeapdchnnpceaaDoor.Fn
end
section
namespace Go.Proofs.YtmeapdchnnpceaaDoor.Pure
open Go.RowKit Go.Proofs.YtmeapdchnnpceaaDoorW.PrintWords Go.Proofs.YtmeapdchnnpceaaDoor.Fn
set_option linter.unusedVariables false
theorem shortest_no (a : Int) {n : Int} (h1 : n ≠ 32) (h2 : n ≠ 64) : Ev (fun k => short_Shortest.f k a n) (⟨#[]⟩, 0, 1) := by
  unfold short_Shortest.f
  rw [of_no h1 h2]
  exact Ev.congr (fun k => by simp) (Ev.now _)
theorem rshortest_no (a : Int) {n : Int} (h1 : n ≠ 32) (h2 : n ≠ 64) : Ev (fun k => platenref05_Shortest.f k a n) (⟨#[]⟩, 0, 1) := by
  unfold platenref05_Shortest.f
  rw [sized_no h1 h2]
  exact Ev.congr (fun k => by simp) (Ev.now _)
theorem ShortDigits : ∀ (a0 : Int) (a1 : Int), (Lit.int .u64 a0).wf = true → (Lit.int .i64 a1).wf = true → ∃ k, platenlaw05_ShortDigits.f k a0 a1 = some true := by
  intro a0 a1 h0 _
  obtain ⟨a, rfl, ha⟩ := wf_u64 h0
  refine Ev.rounds (g := fun k => platenlaw05_ShortDigits.f k (a : Int) a1) ?_
  unfold platenlaw05_ShortDigits.f
  have hq : ∀ (x : ByteArray) (y : Int), (x.toList == x.toList && y == y) = true := fun x y => by simp
  by_cases hs : a1 = 32 ∨ a1 = 64
  · obtain ⟨wide, rfl⟩ := size_two hs
    refine Ev.bind (shortest_eq wide a ha) ?_
    refine Ev.bind (rshortest_eq wide a ha) ?_
    exact Ev.congr (fun k => by rw [if_pos (hq _ _), if_pos rfl]) livesEnd
  · have h1 : a1 ≠ 32 := fun e => hs (.inl e)
    have h2 : a1 ≠ 64 := fun e => hs (.inr e)
    refine Ev.bind (shortest_no (a : Int) h1 h2) ?_
    refine Ev.bind (rshortest_no (a : Int) h1 h2) ?_
    exact Ev.congr (fun k => by rw [if_pos (hq _ _), if_pos rfl]) livesEnd
end Go.Proofs.YtmeapdchnnpceaaDoor.Pure
end
