/- Plain law: what Exact comes to, in the program and in the reference. -/
import Derived.Test.YtobidkjmgkmaoaaDoorPureNum
import Derived.Test.YtobidkjmgkmaoaaDoorFnBigdecExact
import Derived.Test.YtobidkjmgkmaoaaDoorFnPlatenref04Exact
import Derived.Test.YtobidkjmgkmaoaaDoorHandText
namespace Go.Proofs.YtobidkjmgkmaoaaDoor.Pure
open Go.RowKit Go.Proofs.YtobidkjmgkmaoaaDoorW.PrintWords Go.Proofs.YtobidkjmgkmaoaaDoor.Fn
set_option linter.unusedVariables false
set_option linter.unusedSimpArgs false
/-! ### the program's times -/
theorem times_l1 (xs : List Int) (c : Nat) (hc : c < 1000000000) (hl : xs.length ≤ 100000) : Ev (fun k => bigdec_times.l1 k xs (c : Int)) (xs ++ if c = 0 then [] else [(c : Int)]) := by
  have base : ∀ ys : List Int, Ev (fun k => bigdec_times.l1 k ys ((0 : Nat) : Int)) ys := fun ys => Ev.step (f := fun _ => some ys) (fun k => by simp only [bigdec_times.l1]; rw [if_neg (by omega)]) (Ev.now _)
  by_cases h : c = 0
  · rw [if_pos h, h, List.append_nil]; exact base xs
  · rw [if_neg h]
    refine Ev.step (f := fun k => bigdec_times.l1 k (xs ++ [(c : Int)]) ((0 : Nat) : Int)) (fun k => ?_) (base _)
    simp only [bigdec_times.l1]
    rw [if_pos (by omega), if_pos (by omega), tmod_id (by omega), tdiv_id (by omega)]
    have e1 : (c : Int) % 1000000000 = c := by omega
    have e2 : (c : Int) / 1000000000 = ((0 : Nat) : Int) := by omega
    rw [e1, e2]
    rfl
theorem times_l0 (by_ : Nat) (hby : by_ ≤ 400000) : ∀ (rest : List Int) (done : List Int) (c n : Nat), n = done.length + rest.length → n ≤ 50000 → InB 1000000000 rest → c ≤ by_ →
    Ev (fun k => bigdec_times.l0 k (done ++ rest) (by_ : Int) (c : Int) (n : Int) (done.length : Int)) (done ++ mulGo 1000000000 by_ rest c) := by
  intro rest
  induction rest with
  | nil =>
    intro done c n hn hs _ hc
    refine Ev.step (f := fun k => bigdec_times.l1 k done (c : Int)) (fun k => ?_) (times_l1 done c (by omega) (by simp at hn; omega))
    simp only [bigdec_times.l0]
    simp only [List.length_nil] at hn
    rw [if_neg (by omega), List.append_nil]
  | cons x rest ih =>
    intro done c n hn hs hin hc
    have hx := hin.cons.1
    simp only [List.length_cons] at hn
    have hcar := carry_le (B := 1000000000) (x := x.toNat) (by omega) hc (by omega)
    have hxm : x.toNat * by_ ≤ 1000000000 * 400000 := Nat.mul_le_mul (by omega) hby
    have hxe : x = (x.toNat : Int) := by omega
    have := ih (done ++ [(((x.toNat * by_ + c) % 1000000000 : Nat) : Int)]) ((x.toNat * by_ + c) / 1000000000) n (by simp; omega) hs hin.cons.2 hcar
    unfold mulGo
    rw [List.append_assoc, List.append_assoc] at this
    simp only [List.singleton_append] at this
    refine Ev.step (f := fun k => bigdec_times.l0 k (done ++ (((x.toNat * by_ + c) % 1000000000 : Nat) : Int) :: rest) (by_ : Int) (((x.toNat * by_ + c) / 1000000000 : Nat) : Int) (n : Int) ((done ++ [(((x.toNat * by_ + c) % 1000000000 : Nat) : Int)]).length : Int)) (fun k => ?_) this
    simp only [bigdec_times.l0]
    have em : (IntKind.u64.wrap ((IntKind.u64.wrap ((rd (done ++ x :: rest) (done.length : Int)) * (by_ : Int))) + (c : Int))) = ((x.toNat * by_ + c : Nat) : Int) := by
      rw [rd_mid, hxe]
      have h1 : (x.toNat : Int) * (by_ : Int) = ((x.toNat * by_ : Nat) : Int) := by omega
      rw [Int.toNat_natCast, h1, u64_id (x := ((x.toNat * by_ : Nat) : Int)) (by omega) (by omega), u64_id (by omega) (by omega)]
      omega
    rw [if_pos (by omega), if_pos (by omega), if_pos (by rw [List.length_append, List.length_cons]; omega), em, tmod_id (by omega), tdiv_id (by omega), Int.toNat_natCast, set_mid]
    have e1 : (((x.toNat * by_ + c : Nat) : Int) % 1000000000) = (((x.toNat * by_ + c) % 1000000000 : Nat) : Int) := by omega
    have e2 : (((x.toNat * by_ + c : Nat) : Int) / 1000000000) = (((x.toNat * by_ + c) / 1000000000 : Nat) : Int) := by omega
    rw [e1, e2, u64_id (by omega) (by omega), wrap_id (by omega) (by omega)]
    congr 1
    simp
theorem times_eq (xs : List Int) (by_ : Nat) (hby : by_ ≤ 400000) (hin : InB 1000000000 xs) (hl : xs.length ≤ 50000) : Ev (fun k => bigdec_times.f k xs (by_ : Int)) (mulGo 1000000000 by_ xs 0) := by
  have := times_l0 by_ hby xs [] 0 xs.length (by simp) hl hin (by omega)
  simpa [bigdec_times.f] using this
/-! ### the program's text -/
theorem trimmed_eq : ∀ (n : Nat) (l : List Int), l.length = n → n ≤ 100000 → ∃ l', Ev (fun k => bigdec_trimmed_uint64.f k l) l' ∧ lv 1000000000 l' = lv 1000000000 l ∧ l'.length ≤ l.length ∧ ∀ x ∈ l', x ∈ l := by
  intro n
  induction n with
  | zero =>
    intro l hl _
    refine ⟨l, Ev.step (f := fun _ => some l) (fun k => ?_) (Ev.now _), rfl, Nat.le_refl _, fun x h => h⟩
    simp only [bigdec_trimmed_uint64.f, bigdec_trimmed_uint64.l0]
    rw [if_neg (by omega)]
  | succ n ih =>
    intro l hl hn
    obtain ⟨t, c, rfl⟩ : ∃ t c, l = t ++ [c] := by
      rcases List.eq_nil_or_concat l with h | ⟨t, c, h⟩
      · rw [h] at hl; cases hl
      · exact ⟨t, c, by rw [h, List.concat_eq_append]⟩
    have htl : t.length = n := by simpa using hl
    have hw : wrap64 (((t ++ [c]).length : Int) - 1) = (t.length : Int) := by rw [wrap_id (by omega) (by omega)]; omega
    have hrd : rd (t ++ [c]) (t.length : Int) = c := rd_mid t c []
    by_cases h : c = 0
    · obtain ⟨l', h1, h2, h3, h4⟩ := ih t htl (by omega)
      refine ⟨l', Ev.step (f := fun k => bigdec_trimmed_uint64.f k t) (fun k => ?_) h1, by rw [h2, lv_append, h]; simp [lv], by simp; omega, fun x hx => List.mem_append_left _ (h4 x hx)⟩
      simp only [bigdec_trimmed_uint64.f, bigdec_trimmed_uint64.l0]
      rw [if_pos (by omega), hw, if_pos (by omega), if_pos (by omega), hrd, if_pos h, if_pos (by omega)]
      simp
    · refine ⟨t ++ [c], Ev.step (f := fun _ => some (t ++ [c])) (fun k => ?_) (Ev.now _), rfl, Nat.le_refl _, fun x hx => hx⟩
      simp only [bigdec_trimmed_uint64.f, bigdec_trimmed_uint64.l0]
      rw [if_pos (by omega), hw, if_pos (by omega), if_pos (by omega), hrd, if_neg h]
def b9 (x : Nat) : List UInt8 :=
  [ch (x / 10 / 10 / 10 / 10 / 10 / 10 / 10 / 10 % 10), ch (x / 10 / 10 / 10 / 10 / 10 / 10 / 10 % 10), ch (x / 10 / 10 / 10 / 10 / 10 / 10 % 10), ch (x / 10 / 10 / 10 / 10 / 10 % 10),
   ch (x / 10 / 10 / 10 / 10 % 10), ch (x / 10 / 10 / 10 % 10), ch (x / 10 / 10 % 10), ch (x / 10 % 10), ch (x % 10)]
theorem val_b9 {x : Nat} (h : x < 1000000000) : val (b9 x) = x := by
  unfold b9 val
  simp only [List.foldl_cons, List.foldl_nil]
  rw [dig_ch (by omega), dig_ch (by omega), dig_ch (by omega), dig_ch (by omega), dig_ch (by omega), dig_ch (by omega), dig_ch (by omega), dig_ch (by omega), dig_ch (by omega)]
  omega
theorem all_b9 (x : Nat) : AllD (b9 x) := by
  intro c hc
  unfold b9 at hc
  simp only [List.mem_cons, List.not_mem_nil, or_false] at hc
  rcases hc with rfl | rfl | rfl | rfl | rfl | rfl | rfl | rfl | rfl <;> (rw [ch_toNat (by omega)]; omega)
theorem limb9_b9 {x : Int} (h0 : 0 ≤ x) : (limb9 x).map (fun n => UInt8.ofNat n.toNat) = b9 x.toNat := by
  obtain ⟨n, rfl⟩ := Int.eq_ofNat_of_zero_le h0
  unfold limb9 b9 ch
  simp only [List.map_cons, List.map_nil, Int.toNat_natCast]
  congr 2 <;> omega
theorem limbs_text {l : List Int} (h : InB 1000000000 l) : val (L (strOfNums (limbsText l))) = lv 1000000000 l ∧ AllD (L (strOfNums (limbsText l))) := by
  rw [L_strOfNums]
  induction l with
  | nil => exact ⟨rfl, AllD.nil⟩
  | cons x l ih =>
    have hx := h.cons.1
    obtain ⟨h1, h2⟩ := ih h.cons.2
    have e : limbsText (x :: l) = limbsText l ++ limb9 x := by
      unfold limbsText
      rw [List.reverse_cons, List.map_append, List.flatten_append]
      simp
    rw [e, List.map_append, limb9_b9 hx.1]
    refine ⟨?_, h2.append (all_b9 _)⟩
    rw [val_append, h1, val_b9 (by omega), lv]
    have : (b9 x.toNat).length = 9 := rfl
    rw [this]
    omega
theorem text_eq (l : List Int) (h : InB 1000000000 l) (hl : l.length ≤ 100000) : Ev (fun k => bigdec_text.f k l) (S (digs (lv 1000000000 l))) := by
  obtain ⟨l', h1, h2, h3, h4⟩ := trimmed_eq l.length l rfl hl
  have h5 : InB 1000000000 l' := fun x hx => h x (h4 x hx)
  obtain ⟨h6, h7⟩ := limbs_text h5
  unfold bigdec_text.f
  refine Ev.congr (f := fun k => (bigdec_trimmed_uint64.f k l).bind ((fun (_ : Nat) (lx : List Int) => if lx.length ≤ l.length ∧ ∀ x ∈ lx, 0 ≤ x ∧ x ≤ 999999999 then strings_TrimLeft.f (strOfNums (limbsText lx)) ⟨#[48]⟩ else none) k)) (fun k => ?_) (Ev.bind h1 ?_)
  · rw [if_pos ⟨hl, fun x hx => by have := h x hx; omega⟩]
  · refine Ev.congr (fun k => ?_) (Ev.now _)
    show (if l'.length ≤ l.length ∧ ∀ x ∈ l', 0 ≤ x ∧ x ≤ 999999999 then strings_TrimLeft.f (strOfNums (limbsText l')) ⟨#[48]⟩ else none) = some (S (digs (lv 1000000000 l)))
    rw [if_pos ⟨h3, fun x hx => by have := h5 x hx; omega⟩, trimL, dz_eq h7, h6, h2]
/-! ### the program's Exact -/
def eLim (e : Int) : Int := if e < 0 then e else 0
def eBase (e : Int) : Nat := if e < 0 then 5 else 2
def exactS (m : Nat) (e : Int) : ByteArray × Int × Int :=
  if e < -1200 ∨ 1200 < e then (⟨#[]⟩, 0, 1) else ((decS (decOf (m * eBase e ^ e.natAbs) (eLim e))).1, (decS (decOf (m * eBase e ^ e.natAbs) (eLim e))).2, 0)
theorem exact_end (l : List Int) (pt : Int) (h : InB 1000000000 l) (hl : l.length ≤ 20000) (hp : -5000 ≤ pt ∧ pt ≤ 5000) :
    Ev (fun k => (bigdec_text.f k l).bind fun t => (bigdec_form.f t (wrap64 ((t.size : Int) + pt))).bind fun bt => some (bt.1, bt.2, (0 : Int))) ((decS (decOf (lv 1000000000 l) pt)).1, (decS (decOf (lv 1000000000 l) pt)).2, 0) := by
  refine Ev.bind (text_eq l h (by omega)) (Ev.congr (fun k => ?_) (Ev.now _))
  have hlt := lv_lt h
  have hd : (digs (lv 1000000000 l)).length ≤ 9 * l.length := digs_len _ _ (by rw [Nat.pow_mul]; exact hlt)
  generalize lv 1000000000 l = n at hd ⊢
  rw [size_S, wrap_id (by omega) (by omega), form_eq _ _ (by rw [size_S]; omega) (by omega) (by omega), L_S, formL_eq (allD_digs n), val_digs, Option.bind_some]
  have : ((digs n).length : Int) + pt - ((digs n).length : Int) = pt := by omega
  rw [this]
theorem exact_l1 (b : Nat) (hb : b = 2 ∨ b = 5) (pt : Int) (hp : -5000 ≤ pt ∧ pt ≤ 5000) : ∀ (e : Nat) (l : List Int), InB 1000000000 l → l.length + e ≤ 20000 →
    Ev (fun k => bigdec_Exact.l1 k (e : Int) l (b : Int) pt) ((decS (decOf (lv 1000000000 l * b ^ e) pt)).1, (decS (decOf (lv 1000000000 l * b ^ e) pt)).2, 0) := by
  intro e
  induction e with
  | zero =>
    intro l h hl
    rw [Nat.pow_zero, Nat.mul_one]
    refine Ev.step (fun k => ?_) (exact_end l pt h (by omega) hp)
    simp only [bigdec_Exact.l1]
    rw [if_neg (by omega)]
  | succ e ih =>
    intro l h hl
    have hb5 : b ≤ 5 := by omega
    have h1 := times_eq l b (by omega) h (by omega)
    have h2 := ih (mulGo 1000000000 b l 0) (mulGo_in (by omega) l 0 h (by omega)) (by have := mulGo_len (B := 1000000000) (by_ := b) l 0; omega)
    rw [mulGo_val0 (by omega), Nat.mul_assoc, ← Nat.pow_succ'] at h2
    refine Ev.step (fun k => ?_) (Ev.bind (f := fun k t => bigdec_Exact.l1 k (e : Int) t (b : Int) pt) h1 h2)
    simp only [bigdec_Exact.l1]
    rw [if_pos (by omega)]
    have : wrap64 (((e + 1 : Nat) : Int) - 1) = (e : Int) := by rw [wrap_id (by omega) (by omega)]; omega
    rw [this]
theorem pow8 (b : Nat) (hb : b = 2 ∨ b = 5) : (IntKind.u64.wrap ((IntKind.u64.wrap ((IntKind.u64.wrap ((IntKind.u64.wrap ((IntKind.u64.wrap ((IntKind.u64.wrap ((IntKind.u64.wrap ((b : Int) * b)) * b)) * b)) * b)) * b)) * b)) * b)) = ((b ^ 8 : Nat) : Int) := by
  rcases hb with rfl | rfl <;> rfl
theorem exact_l0 (b : Nat) (hb : b = 2 ∨ b = 5) (pt : Int) (hp : -5000 ≤ pt ∧ pt ≤ 5000) : ∀ (e : Nat) (l : List Int), InB 1000000000 l → l.length + e ≤ 20000 →
    Ev (fun k => bigdec_Exact.l0 k (e : Int) l (b : Int) pt) ((decS (decOf (lv 1000000000 l * b ^ e) pt)).1, (decS (decOf (lv 1000000000 l * b ^ e) pt)).2, 0) := by
  intro e
  induction e using Nat.strongRecOn with
  | _ e ih =>
    intro l h hl
    have hb8 : b ^ 8 ≤ 390625 := by rcases hb with rfl | rfl <;> decide
    by_cases he : e ≥ 8
    · have h1 := times_eq l (b ^ 8) (by omega) h (by omega)
      have h2 := ih (e - 8) (by omega) (mulGo 1000000000 (b ^ 8) l 0) (mulGo_in (by omega) l 0 h (by omega)) (by have := mulGo_len (B := 1000000000) (by_ := b ^ 8) l 0; omega)
      rw [mulGo_val0 (by omega), Nat.mul_assoc, ← Nat.pow_add, show 8 + (e - 8) = e by omega] at h2
      refine Ev.step (fun k => ?_) (Ev.bind (f := fun k t => bigdec_Exact.l0 k ((e - 8 : Nat) : Int) t (b : Int) pt) h1 h2)
      simp only [bigdec_Exact.l0]
      rw [if_pos (by omega), pow8 b hb]
      have : wrap64 ((e : Int) - 8) = ((e - 8 : Nat) : Int) := by rw [wrap_id (by omega) (by omega)]; omega
      rw [this]
    · refine Ev.step (fun k => ?_) (exact_l1 b hb pt hp e l h hl)
      simp only [bigdec_Exact.l0]
      rw [if_neg (by omega)]
theorem exact_eq (m : Nat) (e : Int) (hm : m < 18446744073709551616) : Ev (fun k => bigdec_Exact.f k (m : Int) e) (exactS m e) := by
  unfold exactS
  by_cases h1 : e < -1200
  · rw [if_pos (.inl h1)]
    refine Ev.congr (f := fun k => bigdec_Exact.j0 k (m : Int) e true) (fun k => ?_) (Ev.step (f := fun _ => some ((⟨#[]⟩ : ByteArray), (0 : Int), (1 : Int))) (fun k => rfl) (Ev.now _))
    unfold bigdec_Exact.f
    rw [if_pos h1]
  · by_cases h2 : 1200 < e
    · rw [if_pos (.inr h2)]
      refine Ev.congr (f := fun k => bigdec_Exact.j0 k (m : Int) e true) (fun k => ?_) (Ev.step (f := fun _ => some ((⟨#[]⟩ : ByteArray), (0 : Int), (1 : Int))) (fun k => rfl) (Ev.now _))
      unfold bigdec_Exact.f
      rw [if_neg h1, decide_eq_true (by omega)]
    · rw [if_neg (by omega)]
      have hin : InB 1000000000 [((m % 1000000000 : Nat) : Int), ((m / 1000000000 % 1000000000 : Nat) : Int), ((m / 1000000000 / 1000000000 : Nat) : Int)] :=
        InB.mk ⟨by omega, by omega⟩ (InB.mk ⟨by omega, by omega⟩ (InB.mk ⟨by omega, by omega⟩ (InB.nil _)))
      have hv : lv 1000000000 [((m % 1000000000 : Nat) : Int), ((m / 1000000000 % 1000000000 : Nat) : Int), ((m / 1000000000 / 1000000000 : Nat) : Int)] = m := by
        simp only [lv, Int.toNat_natCast]
        omega
      have key := exact_l0 (eBase e) (by unfold eBase; split <;> omega) (eLim e) (by unfold eLim; split <;> omega) e.natAbs _ hin (by simp; omega)
      rw [hv] at key
      have hl : ([Int.tmod (m : Int) 1000000000, Int.tmod (IntKind.u64.wrap (Int.tdiv (m : Int) 1000000000)) 1000000000, IntKind.u64.wrap (Int.tdiv (IntKind.u64.wrap (Int.tdiv (m : Int) 1000000000)) 1000000000)] : List Int) = [((m % 1000000000 : Nat) : Int), ((m / 1000000000 % 1000000000 : Nat) : Int), ((m / 1000000000 / 1000000000 : Nat) : Int)] := by
        rw [tmod_id (by omega), tdiv_id (by omega), u64_id (by omega) (by omega), tmod_id (by omega), tdiv_id (by omega), u64_id (by omega) (by omega)]
        congr 2
      refine Ev.congr (f := fun k => bigdec_Exact.j0 k (m : Int) e false) (fun k => ?_) (Ev.step (f := fun k => bigdec_Exact.j1 k (e.natAbs : Int) [((m % 1000000000 : Nat) : Int), ((m / 1000000000 % 1000000000 : Nat) : Int), ((m / 1000000000 / 1000000000 : Nat) : Int)] (eBase e : Int) (eLim e)) (fun k => ?_) (Ev.step (fun k => rfl) key))
      · unfold bigdec_Exact.f
        rw [if_neg h1, decide_eq_false (by omega)]
      · simp only [bigdec_Exact.j0]
        rw [if_neg (by simp), hl, Option.bind_some]
        unfold eBase eLim
        by_cases h3 : e < 0
        · rw [if_pos h3, if_pos h3, if_pos h3, wrap_id (by omega) (by omega)]
          have : (-e : Int) = (e.natAbs : Int) := by omega
          rw [this]; rfl
        · rw [if_neg h3, if_neg h3, if_neg h3]
          have : (e : Int) = (e.natAbs : Int) := by omega
          rw [← this]; rfl
/-! ### the reference's -/
theorem of_l0 : ∀ (d n : Nat) (out : List Int), n < 10 ^ d → n < 18446744073709551616 → out.length + d ≤ 1000 → Ev (fun k => platenref04_Of.l0 k (n : Int) out) (out ++ dLE d n) := by
  intro d
  induction d with
  | zero =>
    intro n out h _ _
    simp at h
    subst h
    refine Ev.step (f := fun _ => some (out ++ dLE 0 0)) (fun k => ?_) (Ev.now _)
    simp only [platenref04_Of.l0]
    rw [if_neg (by omega)]
    simp [dLE]
  | succ d ih =>
    intro n out h hn hl
    by_cases h0 : n = 0
    · subst h0
      refine Ev.step (f := fun _ => some (out ++ dLE (d + 1) 0)) (fun k => ?_) (Ev.now _)
      simp only [platenref04_Of.l0]
      rw [if_neg (by omega)]
      simp [dLE]
    · have := ih (n / 10) (out ++ [((n % 10 : Nat) : Int)]) (by rw [Nat.pow_succ] at h; omega) (by omega) (by simp; omega)
      unfold dLE
      rw [if_neg h0]
      rw [List.append_assoc, List.singleton_append] at this
      refine Ev.step (f := fun k => platenref04_Of.l0 k ((n / 10 : Nat) : Int) (out ++ [((n % 10 : Nat) : Int)])) (fun k => ?_) this
      simp only [platenref04_Of.l0]
      rw [if_pos (by omega), if_pos (by omega), tmod_id (by omega), tdiv_id (by omega), u64_id (by omega) (by omega)]
      congr 2
      congr 1
      omega
theorem of_eq (n : Nat) (hn : n < 18446744073709551616) : Ev (fun k => platenref04_Of.f k (n : Int)) (dLE 20 n) := by
  have := of_l0 20 n [] (by omega) hn (by simp)
  simpa [platenref04_Of.f] using this
theorem rtimes_l1 (xs : List Int) (c : Nat) (hc : c < 10) (hl : xs.length ≤ 100000) : Ev (fun k => platenref04_Times.l1 k xs (c : Int)) (xs ++ if c = 0 then [] else [(c : Int)]) := by
  have base : ∀ ys : List Int, Ev (fun k => platenref04_Times.l1 k ys ((0 : Nat) : Int)) ys := fun ys => Ev.step (f := fun _ => some ys) (fun k => by simp only [platenref04_Times.l1]; rw [if_neg (by omega)]) (Ev.now _)
  by_cases h : c = 0
  · rw [if_pos h, h, List.append_nil]; exact base xs
  · rw [if_neg h]
    refine Ev.step (f := fun k => platenref04_Times.l1 k (xs ++ [(c : Int)]) ((0 : Nat) : Int)) (fun k => ?_) (base _)
    simp only [platenref04_Times.l1]
    rw [if_pos (by omega), if_pos (by omega), tmod_id (by omega), tdiv_id (by omega)]
    have e1 : (c : Int) % 10 % 256 = c := by omega
    have e2 : (c : Int) / 10 = ((0 : Nat) : Int) := by omega
    rw [e1, e2, wrap_id (by omega) (by omega)]
theorem rtimes_l0 (by_ : Nat) (hby : by_ ≤ 9) : ∀ (rest : List Int) (done out : List Int) (c n : Nat), n = done.length + rest.length → n ≤ 50000 → out.length = done.length → InB 10 rest → c ≤ by_ →
    Ev (fun k => platenref04_Times.l0 k (by_ : Int) out (c : Int) (done ++ rest) (n : Int) (done.length : Int)) (out ++ mulGo 10 by_ rest c) := by
  intro rest
  induction rest with
  | nil =>
    intro done out c n hn hs ho _ hc
    refine Ev.step (f := fun k => platenref04_Times.l1 k out (c : Int)) (fun k => ?_) (rtimes_l1 out c (by omega) (by simp at hn; omega))
    simp only [platenref04_Times.l0]
    simp only [List.length_nil] at hn
    rw [if_neg (by omega)]
  | cons x rest ih =>
    intro done out c n hn hs ho hin hc
    have hx := hin.cons.1
    simp only [List.length_cons] at hn
    have hcar := carry_le (B := 10) (x := x.toNat) (by omega) hc (by omega)
    have hxm : x.toNat * by_ ≤ 10 * 9 := Nat.mul_le_mul (by omega) hby
    have hxe : x = (x.toNat : Int) := by omega
    have := ih (done ++ [x]) (out ++ [(((x.toNat * by_ + c) % 10 : Nat) : Int)]) ((x.toNat * by_ + c) / 10) n (by simp; omega) hs (by simp [ho]) hin.cons.2 hcar
    unfold mulGo
    rw [List.append_assoc, List.append_assoc] at this
    simp only [List.singleton_append] at this
    refine Ev.step (f := fun k => platenref04_Times.l0 k (by_ : Int) (out ++ [(((x.toNat * by_ + c) % 10 : Nat) : Int)]) (((x.toNat * by_ + c) / 10 : Nat) : Int) (done ++ x :: rest) (n : Int) ((done ++ [x]).length : Int)) (fun k => ?_) this
    simp only [platenref04_Times.l0]
    have em : (wrap64 ((c : Int) + (wrap64 ((wrap64 (rd (done ++ x :: rest) (done.length : Int))) * (by_ : Int))))) = ((x.toNat * by_ + c : Nat) : Int) := by
      rw [rd_mid, wrap_id (x := x) (by omega) (by omega)]
      have h1 : x * (by_ : Int) = ((x.toNat * by_ : Nat) : Int) := by rw [Int.natCast_mul, ← hxe]
      rw [h1, wrap_id (x := ((x.toNat * by_ : Nat) : Int)) (by omega) (by omega), wrap_id (by omega) (by omega)]
      omega
    rw [if_pos (by omega), if_pos (by omega), if_pos (by rw [List.length_append, List.length_cons]; omega), if_pos (by omega), em, tmod_id (by omega), tdiv_id (by omega)]
    have e1 : (((x.toNat * by_ + c : Nat) : Int) % 10 % 256) = (((x.toNat * by_ + c) % 10 : Nat) : Int) := by omega
    have e2 : (((x.toNat * by_ + c : Nat) : Int) / 10) = (((x.toNat * by_ + c) / 10 : Nat) : Int) := by omega
    rw [e1, e2, wrap_id (by omega) (by omega), wrap_id (by omega) (by omega)]
    congr 1
    simp
theorem rtimes_eq (xs : List Int) (by_ : Nat) (hby : by_ ≤ 9) (hin : InB 10 xs) (hl : xs.length ≤ 50000) : Ev (fun k => platenref04_Times.f k xs (by_ : Int)) (mulGo 10 by_ xs 0) := by
  have := rtimes_l0 by_ hby xs [] [] 0 xs.length (by simp) hl rfl hin (by omega)
  simpa [platenref04_Times.f] using this
theorem zeros_set (m : Nat) (v : Int) (t : List Int) : (List.replicate (m + 1) (0 : Int) ++ t).set m v = List.replicate m 0 ++ v :: t := by
  have h1 : List.replicate (m + 1) (0 : Int) = List.replicate m 0 ++ [0] := List.replicate_succ'
  have h2 := set_mid (List.replicate m (0 : Int)) 0 v t
  rw [List.length_replicate] at h2
  rw [h1, List.append_assoc]
  exact h2
theorem rtext_l0 (all : List Int) (hall : all.length ≤ 50000) : ∀ (rest done : List Int), all = done ++ rest → InB 10 rest →
    Ev (fun k => platenref04_Text.l0 k all (List.replicate rest.length 0 ++ done.reverse.map (fun x => 48 + x)) all (all.length : Int) (done.length : Int)) (strOfNums (all.reverse.map (fun x => 48 + x))) := by
  intro rest
  induction rest with
  | nil =>
    intro done h _
    rw [List.append_nil] at h
    subst h
    refine Ev.step (f := fun _ => some (strOfNums (all.reverse.map (fun x => 48 + x)))) (fun k => ?_) (Ev.now _)
    simp only [platenref04_Text.l0]
    rw [if_neg (by omega)]
    simp
  | cons x rest ih =>
    intro done h hin
    have hx := hin.cons.1
    have := ih (done ++ [x]) (by rw [h]; simp) hin.cons.2
    rw [List.reverse_append, List.map_append, List.reverse_singleton, List.map_cons, List.map_nil, List.singleton_append] at this
    have hlen : all.length = done.length + (rest.length + 1) := by rw [h]; simp
    have hw : (wrap64 ((wrap64 ((all.length : Int) - 1)) - (done.length : Int))) = (rest.length : Int) := by
      rw [wrap_id (x := (all.length : Int) - 1) (by omega) (by omega), wrap_id (by omega) (by omega)]; omega
    refine Ev.step (f := fun k => platenref04_Text.l0 k all (List.replicate rest.length 0 ++ (48 + x) :: done.reverse.map (fun x => 48 + x)) all (all.length : Int) ((done ++ [x]).length : Int)) (fun k => ?_) this
    simp only [platenref04_Text.l0]
    have hrd : rd all (done.length : Int) = x := by rw [h]; exact rd_mid done x rest
    rw [if_pos (by omega), if_pos (by omega), if_pos (by omega), hw, if_pos (by omega), if_pos (by simp; omega), hrd, Int.toNat_natCast, List.length_cons, zeros_set, wrap_id (by omega) (by omega)]
    have e1 : (48 + x) % 256 = 48 + x := by omega
    rw [e1]
    congr 1
    simp
theorem strOf_textLE {l : List Int} (h : InB 10 l) : strOfNums (l.reverse.map (fun x => 48 + x)) = S (textLE l) := by
  unfold S textLE
  rw [← S_L (strOfNums _), L_strOfNums, List.map_map]
  have e : List.map ((fun n : Int => UInt8.ofNat n.toNat) ∘ fun x => 48 + x) l.reverse = List.map (fun x : Int => ch x.toNat) l.reverse := by
    apply List.map_congr_left
    intro x hx
    have := h x (List.mem_reverse.1 hx)
    simp only [Function.comp]
    unfold ch
    congr 1
    omega
  rw [e]
  rfl
theorem rtext_eq (l : List Int) (h : InB 10 l) (hl : l.length ≤ 50000) : Ev (fun k => platenref04_Text.f k l) (S (textLE l)) := by
  have := rtext_l0 l hl l [] rfl h
  rw [strOf_textLE h] at this
  unfold platenref04_Text.f
  refine Ev.congr (fun k => ?_) this
  rw [if_pos (by omega), if_pos (by omega)]
  simp
theorem rexact_end (l : List Int) (back : Nat) (h : InB 10 l) (hl : l.length ≤ 20000) (hb : back ≤ 2000) :
    Ev (fun k => (platenref04_Text.f k l).bind fun t => (platenref04_In.f k t (wrap64 ((l.length : Int) - (back : Int)))).bind fun bt => some (bt.1, bt.2, (0 : Int))) ((decS (decOf (lv 10 l) (-(back : Int)))).1, (decS (decOf (lv 10 l) (-(back : Int)))).2, 0) := by
  refine Ev.bind (rtext_eq l h (by omega)) ?_
  have h1 := rIn_eq (S (textLE l)) ((l.length : Int) - (back : Int)) (by rw [size_S, textLE_len]; omega) (by omega) (by omega)
  rw [L_S, formL_eq (textLE_all h), textLE_val h, textLE_len] at h1
  have : (l.length : Int) - (back : Int) - (l.length : Int) = -(back : Int) := by omega
  rw [this] at h1
  refine Ev.congr (fun k => ?_) (Ev.bind (f := fun _ bt => some (bt.1, bt.2, (0 : Int))) h1 (Ev.now _))
  rw [wrap_id (by omega) (by omega)]
theorem rexact_l1 : ∀ (d i : Nat) (e : Int) (l : List Int), e = -((i + d : Nat) : Int) → i + d ≤ 1200 → InB 10 l → l.length + d ≤ 20000 →
    Ev (fun k => platenref04_Exact.l1 k e l (i : Int) (-(i : Int))) ((decS (decOf (lv 10 l * 5 ^ d) e)).1, (decS (decOf (lv 10 l * 5 ^ d) e)).2, 0) := by
  intro d
  induction d with
  | zero =>
    intro i e l he hi h hl
    subst he
    rw [Nat.pow_zero, Nat.mul_one]
    refine Ev.step (fun k => ?_) (rexact_end l i h (by omega) (by omega))
    simp only [platenref04_Exact.l1]
    rw [if_neg (by omega)]
  | succ d ih =>
    intro i e l he hi h hl
    have h1 := rtimes_eq l 5 (by omega) h (by omega)
    have h2 := ih (i + 1) e (mulGo 10 5 l 0) (by rw [he]; congr 2; omega) (by omega) (mulGo_in (by omega) l 0 h (by omega)) (by have := mulGo_len (B := 10) (by_ := 5) l 0; omega)
    rw [mulGo_val0 (by omega), Nat.mul_assoc, ← Nat.pow_succ'] at h2
    refine Ev.step (fun k => ?_) (Ev.bind (f := fun k t => platenref04_Exact.l1 k e t ((i + 1 : Nat) : Int) (-((i + 1 : Nat) : Int))) h1 h2)
    simp only [platenref04_Exact.l1]
    rw [if_pos (by omega), wrap_id (by omega) (by omega), wrap_id (by omega) (by omega)]
    have e1 : (i : Int) + 1 = ((i + 1 : Nat) : Int) := by omega
    have e2 : -(i : Int) - 1 = -((i + 1 : Nat) : Int) := by omega
    rw [e1, e2]
    rfl
theorem rexact_l0 : ∀ (d i : Nat) (e : Nat) (l : List Int), e = i + d → e ≤ 1200 → InB 10 l → l.length + d ≤ 20000 →
    Ev (fun k => platenref04_Exact.l0 k (e : Int) l 0 (i : Int)) ((decS (decOf (lv 10 l * 2 ^ d) 0)).1, (decS (decOf (lv 10 l * 2 ^ d) 0)).2, 0) := by
  intro d
  induction d with
  | zero =>
    intro i e l he hi h hl
    rw [Nat.pow_zero, Nat.mul_one]
    refine Ev.step (f := fun k => platenref04_Exact.l1 k (e : Int) l 0 0) (fun k => ?_) (Ev.step (fun k => ?_) (rexact_end l 0 h (by omega) (by omega)))
    · simp only [platenref04_Exact.l0]
      rw [if_neg (by omega)]
    · simp only [platenref04_Exact.l1]
      rw [if_neg (by omega)]
      rfl
  | succ d ih =>
    intro i e l he hi h hl
    have h1 := rtimes_eq l 2 (by omega) h (by omega)
    have h2 := ih (i + 1) e (mulGo 10 2 l 0) (by omega) (by omega) (mulGo_in (by omega) l 0 h (by omega)) (by have := mulGo_len (B := 10) (by_ := 2) l 0; omega)
    rw [mulGo_val0 (by omega), Nat.mul_assoc, ← Nat.pow_succ'] at h2
    refine Ev.step (fun k => ?_) (Ev.bind (f := fun k t => platenref04_Exact.l0 k (e : Int) t 0 ((i + 1 : Nat) : Int)) h1 h2)
    simp only [platenref04_Exact.l0]
    rw [if_pos (by omega), wrap_id (by omega) (by omega)]
    rfl
theorem rexact_eq (m : Nat) (e : Int) (hm : m < 18446744073709551616) : Ev (fun k => platenref04_Exact.f k (m : Int) e) (exactS m e) := by
  unfold exactS
  by_cases h1 : e < -1200
  · rw [if_pos (.inl h1)]
    refine Ev.congr (f := fun k => platenref04_Exact.j0 k (m : Int) e true) (fun k => ?_) (Ev.step (f := fun _ => some ((⟨#[]⟩ : ByteArray), (0 : Int), (1 : Int))) (fun k => rfl) (Ev.now _))
    unfold platenref04_Exact.f
    rw [if_pos h1]
  · by_cases h2 : 1200 < e
    · rw [if_pos (.inr h2)]
      refine Ev.congr (f := fun k => platenref04_Exact.j0 k (m : Int) e true) (fun k => ?_) (Ev.step (f := fun _ => some ((⟨#[]⟩ : ByteArray), (0 : Int), (1 : Int))) (fun k => rfl) (Ev.now _))
      unfold platenref04_Exact.f
      rw [if_neg h1, decide_eq_true (by omega)]
    · rw [if_neg (by omega)]
      have hin := dLE_in 20 m
      have hlen := dLE_len 20 m
      have hv := dLE_val 20 m (by omega)
      refine Ev.congr (f := fun k => platenref04_Exact.j0 k (m : Int) e false) (fun k => ?_) (Ev.step (fun k => ?_) (Ev.bind (f := fun k t => platenref04_Exact.l0 k e t 0 0) (of_eq m hm) ?_))
      · unfold platenref04_Exact.f
        rw [if_neg h1, decide_eq_false (by omega)]
      · simp only [platenref04_Exact.j0]
        rw [if_neg (by simp)]
      · unfold eBase eLim
        by_cases h3 : e < 0
        · rw [if_pos h3, if_pos h3]
          have key := rexact_l1 e.natAbs 0 e (dLE 20 m) (by omega) (by omega) hin (by omega)
          rw [hv] at key
          refine Ev.step (f := fun k => platenref04_Exact.l1 k e (dLE 20 m) 0 0) (fun k => ?_) key
          simp only [platenref04_Exact.l0]
          rw [if_neg (by omega)]
        · rw [if_neg h3, if_neg h3]
          have key := rexact_l0 e.natAbs 0 e.natAbs (dLE 20 m) (by omega) (by omega) hin (by omega)
          rw [hv] at key
          have e1 : (e.natAbs : Int) = e := by omega
          rw [e1] at key
          exact key
end Go.Proofs.YtobidkjmgkmaoaaDoor.Pure
