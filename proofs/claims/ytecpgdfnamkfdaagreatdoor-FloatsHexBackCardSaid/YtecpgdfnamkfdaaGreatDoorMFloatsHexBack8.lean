/- The law FloatsHexBack: the walks through its functions and its plain law (part 8). Own texts and the kit's printed words for this seat, without what the law does not use: put together by merge.py (of this work). -/
import Derived.Test.YtecpgdfnamkfdaaGreatDoorMFloatsHexBack7
import Derived.Handy
section
namespace Go.Proofs.YtecpgdfnamkfdaaGreatDoor.Pure
open Go.RowKit Go.Proofs.YtecpgdfnamkfdaaGreatDoorW.PrintWords Go.Proofs.YtecpgdfnamkfdaaGreatDoorW.PrintLast Go.Proofs.YtecpgdfnamkfdaaGreatDoorW.PrintMore Go.Proofs.YtecpgdfnamkfdaaGreatDoor.Fn
set_option linter.unusedVariables false
set_option linter.unusedSimpArgs false
theorem hx_step {r : Bool} {M E : Int} {P : List UInt8} {c : UInt8} {R : List UInt8} {g : Nat} {x : Int} (hc : HexD c) (hP : 2 ≤ P.length) (hl : (P ++ c :: R).length ≤ 1000000) (hg : 16 * g + hd c < 18446744073709551616) (hx : -100000 ≤ x ∧ x ≤ 100000)
    (h : Ev (fun k => platenlaw06_FloatsHexBack.l0 k M E (S (P ++ c :: R)) ((16 * g + hd c : Nat) : Int) (if 2 < P.length then x - 4 else x) ((P.length + 1 : Nat) : Int)) r) :
    Ev (fun k => platenlaw06_FloatsHexBack.l0 k M E (S (P ++ c :: R)) (g : Int) x (P.length : Int)) r := by
  have hlen : (P ++ c :: R).length = P.length + (R.length + 1) := by simp
  have hw : wrap64 ((P.length : Int) + 1) = ((P.length + 1 : Nat) : Int) := by rw [w64 (by omega) (by omega)]; rfl
  have hw4 : wrap64 (x - 4) = x - 4 := w64 (by omega) (by omega)
  have hc2 : 48 ≤ c.toNat ∧ c.toNat ≤ 102 := by unfold HexD at hc; omega
  have hg1 : IntKind.u64.wrap (16 * (g : Int)) = ((16 * g : Nat) : Int) := by
    rw [show 16 * (g : Int) = ((16 * g : Nat) : Int) by omega]
    exact u64c _ (by omega)
  refine Ev.step (fun k => by simp only [platenlaw06_FloatsHexBack.l0]; rfl) ?_
  refine Ev.congr (fun k => if_pos (by rw [size_S, hlen]; omega)) ?_
  refine Ev.congr (fun k => if_pos (by omega)) ?_
  rw [bt_mid, show ((c.toNat : Int) != 112) = true from bne_iff_ne.mpr (by omega)]
  refine Ev.step (fun k => by simp only [platenlaw06_FloatsHexBack.j2]; rfl) ?_
  refine Ev.congr (fun k => if_pos (by first | rfl | trivial)) ?_
  refine Ev.congr (fun k => if_pos (by omega)) ?_
  refine Ev.congr (fun k => if_pos (by rw [size_S, hlen]; omega)) ?_
  rw [bt_mid]
  refine Ev.congr (fun k => if_neg (by omega)) ?_
  refine Ev.congr (fun k => if_pos (by omega)) ?_
  have go : ∀ y : Int, y = ((16 * g + hd c : Nat) : Int) → Ev (fun k => if (P.length : Int) > 2 then (platenlaw06_FloatsHexBack.l0 k M E (S (P ++ c :: R)) y (wrap64 (x - 4)) (wrap64 ((P.length : Int) + 1))) else (platenlaw06_FloatsHexBack.l0 k M E (S (P ++ c :: R)) y x (wrap64 ((P.length : Int) + 1)))) r := by
    intro y hy
    rw [hy, hw, hw4]
    by_cases d : 2 < P.length
    · rw [if_pos d] at h
      exact Ev.congr (fun k => if_pos (by omega)) h
    · rw [if_neg d] at h
      exact Ev.congr (fun k => if_neg (by omega)) h
  by_cases d : c.toNat ≤ 57
  · rw [decide_eq_true (show (c.toNat : Int) ≤ 57 by omega)]
    refine Ev.step (fun k => by simp only [platenlaw06_FloatsHexBack.j3]; rfl) ?_
    refine Ev.congr (fun k => if_pos (by first | rfl | trivial)) ?_
    refine go _ ?_
    have e : hd c = c.toNat - 48 := by unfold hd; rw [if_pos d]
    rw [hg1, show ((16 * g : Nat) : Int) + ((c.toNat : Int) - 48) % 256 = ((16 * g + hd c : Nat) : Int) by omega]
    exact u64c _ (by omega)
  · have hc3 : 97 ≤ c.toNat := by unfold HexD at hc; omega
    rw [decide_eq_false (show ¬ (c.toNat : Int) ≤ 57 by omega)]
    refine Ev.step (fun k => by simp only [platenlaw06_FloatsHexBack.j3]; rfl) ?_
    refine Ev.congr (fun k => if_neg (by simp)) ?_
    refine Ev.congr (fun k => if_pos (by omega)) ?_
    rw [decide_eq_true (show (c.toNat : Int) ≤ 102 by omega)]
    refine Ev.step (fun k => by simp only [platenlaw06_FloatsHexBack.j4]; rfl) ?_
    refine Ev.congr (fun k => if_pos (by first | rfl | trivial)) ?_
    refine go _ ?_
    have e : hd c = c.toNat - 87 := by unfold hd; rw [if_neg d]
    rw [hg1, show ((16 * g : Nat) : Int) + ((c.toNat : Int) - 97) % 256 = ((16 * g + (c.toNat - 97) : Nat) : Int) by omega, u64c _ (by omega), show ((16 * g + (c.toNat - 97) : Nat) : Int) + 10 = ((16 * g + hd c : Nat) : Int) by omega]
    exact u64c _ (by omega)
theorem hx_many {r : Bool} {M E : Int} (R : List UInt8) : ∀ (D P : List UInt8) (g : Nat) (x : Int), AllH D → 3 ≤ P.length → (P ++ (D ++ R)).length ≤ 1000000 → hvF g D < 18446744073709551616 → -1000 + 4 * (D.length : Int) ≤ x → x ≤ 1000 →
    Ev (fun k => platenlaw06_FloatsHexBack.l0 k M E (S (P ++ (D ++ R))) ((hvF g D : Nat) : Int) (x - 4 * (D.length : Int)) ((P.length + D.length : Nat) : Int)) r →
    Ev (fun k => platenlaw06_FloatsHexBack.l0 k M E (S (P ++ (D ++ R))) (g : Int) x (P.length : Int)) r
  | [], P, g, x, _, _, _, _, _, _, h => by simpa [hvF] using h
  | c :: D, P, g, x, hD, hP, hl, hg, h1, h2, h => by
    have hge : hvF g (c :: D) = (16 * g + hd c) * 16 ^ D.length + hvF 0 D := by rw [hvF, hvF_add]
    have h16 : 1 ≤ 16 ^ D.length := Nat.pow_pos (by decide)
    have hle : (16 * g + hd c) * 1 ≤ (16 * g + hd c) * 16 ^ D.length := Nat.mul_le_mul_left _ h16
    refine hx_step (hD c (by simp)) (by omega) (by simpa using hl) (by omega) (by simp at h1; omega) ?_
    rw [if_pos (by omega)]
    have e1 : P ++ (c :: D ++ R) = (P ++ [c]) ++ (D ++ R) := by simp
    have e2 : ((P.length + 1 : Nat) : Int) = ((P ++ [c]).length : Int) := by simp
    have e3 : ((P.length + (c :: D).length : Nat) : Int) = (((P ++ [c]).length + D.length : Nat) : Int) := by simp; omega
    have e4 : x - 4 * ((c :: D).length : Int) = x - 4 - 4 * (D.length : Int) := by simp; omega
    have e5 : P ++ c :: (D ++ R) = (P ++ [c]) ++ (D ++ R) := by simp
    rw [e1, e3, e4] at h
    rw [e1] at hl
    show Ev (fun k => platenlaw06_FloatsHexBack.l0 k M E (S (P ++ c :: (D ++ R))) _ _ _) r
    rw [e5, e2]
    exact hx_many R D (P ++ [c]) (16 * g + hd c) (x - 4) (fun y hy => hD y (by simp [hy])) (by simp; omega) hl hg (by simp at h1; omega) (by omega) h
theorem hx_dot {r : Bool} {M E : Int} (P R : List UInt8) (g x : Int) (hl : (P ++ 46 :: R).length ≤ 1000000)
    (h : Ev (fun k => platenlaw06_FloatsHexBack.l0 k M E (S (P ++ 46 :: R)) g x ((P.length + 1 : Nat) : Int)) r) :
    Ev (fun k => platenlaw06_FloatsHexBack.l0 k M E (S (P ++ 46 :: R)) g x (P.length : Int)) r := by
  have hlen : (P ++ 46 :: R).length = P.length + (R.length + 1) := by simp
  have hw : wrap64 ((P.length : Int) + 1) = ((P.length + 1 : Nat) : Int) := by rw [w64 (by omega) (by omega)]; rfl
  refine Ev.step (fun k => by simp only [platenlaw06_FloatsHexBack.l0]; rfl) ?_
  refine Ev.congr (fun k => if_pos (by rw [size_S, hlen]; omega)) ?_
  refine Ev.congr (fun k => if_pos (by omega)) ?_
  rw [bt_mid, show (((46 : UInt8).toNat : Int) != 112) = true from by decide]
  refine Ev.step (fun k => by simp only [platenlaw06_FloatsHexBack.j2]; rfl) ?_
  refine Ev.congr (fun k => if_pos (by first | rfl | trivial)) ?_
  refine Ev.congr (fun k => if_pos (by omega)) ?_
  refine Ev.congr (fun k => if_pos (by rw [size_S, hlen]; omega)) ?_
  rw [bt_mid]
  refine Ev.congr (fun k => if_pos (by decide)) ?_
  rw [hw]
  exact h
theorem hx_digs {r : Bool} {M E : Int} {P : List UInt8} {m g : UInt8} {X : List UInt8} {G : Int} {x : Int} (hP : P.length ≤ 1000) (hX : AllD X) (h4 : X.length ≤ 4)
    (h : Ev (fun k => platenlaw06_FloatsHexBack.l1 k M E (S (P ++ m :: g :: X)) G x (P.length : Int) (val X : Int) (toI X) (X.length : Int) (X.length : Int)) r) : ∀ (D pre : List UInt8), X = pre ++ D →
    Ev (fun k => platenlaw06_FloatsHexBack.l1 k M E (S (P ++ m :: g :: X)) G x (P.length : Int) (val pre : Int) (toI X) (X.length : Int) (pre.length : Int)) r
  | [], pre, e => by
    rw [List.append_nil] at e
    subst e
    exact h
  | c :: D, pre, e => by
    have hc := hX c (by rw [e]; simp)
    have hpre : AllD pre := fun y hy => hX y (by rw [e]; simp [hy])
    have hlen : X.length = pre.length + (D.length + 1) := by rw [e]; simp
    have hv := val_lt hpre
    have hv2 : val pre < 1000 := Nat.lt_of_lt_of_le hv (by have := Nat.pow_le_pow_right (show 0 < 10 by decide) (show pre.length ≤ 3 by omega); omega)
    refine Ev.step (fun k => by simp only [platenlaw06_FloatsHexBack.l1]; rfl) ?_
    refine Ev.congr (fun k => if_pos (by omega)) ?_
    refine Ev.congr (fun k => if_pos (by omega)) ?_
    refine Ev.congr (fun k => if_pos (by rw [toI_length]; omega)) ?_
    have hr : rd (toI X) (pre.length : Int) = (c.toNat : Int) := by rw [e]; exact toI_rd pre c D
    rw [hr]
    refine Ev.congr (fun k => if_neg (by omega)) ?_
    refine Ev.congr (fun k => if_neg (by omega)) ?_
    have hn : wrap64 (wrap64 (10 * (val pre : Int)) + ((c.toNat : Int) - 48) % 256) = ((val (pre ++ [c]) : Nat) : Int) := by
      rw [val_snoc, w64 (x := 10 * (val pre : Int)) (by omega) (by omega), w64 (by omega) (by omega)]
      unfold dig
      omega
    have hi : wrap64 ((pre.length : Int) + 1) = ((pre ++ [c]).length : Int) := by rw [w64 (by omega) (by omega)]; simp
    rw [hn, hi]
    exact hx_digs hP hX h4 h D (pre ++ [c]) (by rw [e]; simp)
theorem end_facts {P : List UInt8} {g : UInt8} {X : List UInt8} (hP : P.length ≤ 1000 ∧ 3 ≤ P.length) (hX : AllD X) (h2 : 2 ≤ X.length) (h4 : X.length ≤ 4) :
    val X < 10000 ∧ wrap64 ((P.length : Int) + 1) = ((P.length + 1 : Nat) : Int) ∧ wrap64 ((P.length : Int) + 2) = ((P.length + 2 : Nat) : Int) ∧ wrap64 ((P.length : Int) + 4) = ((P.length + 4 : Nat) : Int) ∧ (2 : Int) < ((S (P ++ 112 :: g :: X)).size : Int) ∧
      (P.length : Int) < ((S (P ++ 112 :: g :: X)).size : Int) ∧ ¬ ((P.length + 4 : Nat) : Int) > ((S (P ++ 112 :: g :: X)).size : Int) ∧ ((P.length + 2 : Nat) : Int) ≤ ((S (P ++ 112 :: g :: X)).size : Int) ∧ ((P.length + 1 : Nat) : Int) < ((S (P ++ 112 :: g :: X)).size : Int) ∧
      (0 : Int) ≤ (P.length : Int) ∧ (0 : Int) ≤ ((P.length + 2 : Nat) : Int) ∧ (0 : Int) ≤ ((P.length + 1 : Nat) : Int) ∧ (S X).size ≤ 9223372036854775807 := by
  have hlen : (P ++ 112 :: g :: X).length = P.length + (X.length + 1 + 1) := by simp
  have hv := val_lt hX
  have hv2 : val X < 10000 := Nat.lt_of_lt_of_le hv (by have := Nat.pow_le_pow_right (show 0 < 10 by decide) h4; omega)
  clear hv hX
  rw [size_S, hlen, size_S]
  exact ⟨hv2, by rw [w64 (by omega) (by omega)]; rfl, by rw [w64 (by omega) (by omega)]; rfl, by rw [w64 (by omega) (by omega)]; rfl, by omega, by omega, by omega, by omega, by omega, by omega, by omega, by omega, by omega⟩
theorem end_text {P : List UInt8} {g : UInt8} {X : List UInt8} : (S (P ++ 112 :: g :: X)).extract (((P.length + 2 : Nat) : Int)).toNat (S (P ++ 112 :: g :: X)).size = S X := by
  rw [Int.toNat_natCast, S_drop2]
  congr 1
  rw [show P ++ 112 :: g :: X = (P ++ [112, g]) ++ X by simp]
  exact List.drop_left' (by simp)
theorem end_sign {P : List UInt8} {g : UInt8} {X : List UInt8} : bt (S (P ++ 112 :: g :: X)) ((P.length + 1 : Nat) : Int) = (g.toNat : Int) := by
  have h := bt_mid (P ++ [(112 : UInt8)]) g X
  have e1 : (P ++ [(112 : UInt8)]) ++ g :: X = P ++ 112 :: g :: X := by simp
  have e2 : (P ++ [(112 : UInt8)]).length = P.length + 1 := by simp
  rw [e1, e2] at h
  exact h
theorem end_same {M e' Y G : Int} {d : List UInt8 × Int} {s : ByteArray} (hs : (2 : Int) < (s.size : Int)) (hz1 : Ev (fun k => bigdec_Exact.f k M e') (S d.1, d.2, 0)) (hz2 : Ev (fun k => bigdec_Exact.f k G Y) (S d.1, d.2, 0)) (hlead : ((bt s 2 == 49) == decide (M > 0)) = true) :
    Ev (fun k => (bigdec_Exact.f k G Y).bind fun bt1064 => ((bigdec_Exact.f k M e').bind fun bt1068 => (if bt1064.2.2 = 0 then (if bt1068.2.2 = 0 then (if (bt1064.1.toList == bt1068.1.toList && (bt1064.2.1 == bt1068.2.1)) = true then (if 2 < (s.size : Int) then (if (((bt s 2) == 49) == (decide (M > 0))) = true then ((platenlaw06_lives.f k).bind fun t1072 => (some t1072)) else (some false)) else (none)) else (some false)) else (some false)) else (some false)))) true := by
  refine Ev.bind hz2 ?_
  refine Ev.bind hz1 ?_
  refine Ev.congr (fun k => if_pos rfl) ?_
  refine Ev.congr (fun k => if_pos rfl) ?_
  refine Ev.congr (fun k => if_pos (by simp)) ?_
  refine Ev.congr (fun k => if_pos hs) ?_
  refine Ev.congr (fun k => if_pos hlead) ?_
  exact livesEnd6
theorem hx_end {M e' Y : Int} {P : List UInt8} {g : UInt8} {X : List UInt8} {G : Int} {x : Int} (hg : g = 43 ∨ g = 45) (hP : P.length ≤ 1000 ∧ 3 ≤ P.length) (hX : AllD X) (h2 : 2 ≤ X.length) (h4 : X.length ≤ 4) (hx : -1000 ≤ x ∧ x ≤ 1000)
    (hY : Y = x + (if g = 45 then -(val X : Int) else (val X : Int)))
    (hend : Ev (fun k => (bigdec_Exact.f k G Y).bind fun bt1064 => ((bigdec_Exact.f k M e').bind fun bt1068 => (if bt1064.2.2 = 0 then (if bt1068.2.2 = 0 then (if (bt1064.1.toList == bt1068.1.toList && (bt1064.2.1 == bt1068.2.1)) = true then (if 2 < ((S (P ++ 112 :: g :: X)).size : Int) then (if (((bt (S (P ++ 112 :: g :: X)) 2) == 49) == (decide (M > 0))) = true then ((platenlaw06_lives.f k).bind fun t1072 => (some t1072)) else (some false)) else (none)) else (some false)) else (some false)) else (some false)))) true) :
    Ev (fun k => platenlaw06_FloatsHexBack.l0 k M e' (S (P ++ 112 :: g :: X)) G x (P.length : Int)) true := by
  obtain ⟨hv2, hw1, hw2, hw4, z1, z2, z3, z4, z5, z6, z7, z8, z9⟩ := end_facts (g := g) hP hX h2 h4
  have hb1 := end_sign (P := P) (g := g) (X := X)
  have hxx := end_text (P := P) (g := g) (X := X)
  refine Ev.step (fun k => by simp only [platenlaw06_FloatsHexBack.l0]; rfl) ?_
  refine Ev.congr (fun k => if_pos z2) ?_
  refine Ev.congr (fun k => if_pos z6) ?_
  rw [bt_mid, show (((112 : UInt8).toNat : Int) != 112) = false from by decide]
  refine Ev.step (fun k => by simp only [platenlaw06_FloatsHexBack.j2]; rfl) ?_
  refine Ev.congr (fun k => if_neg (by simp)) ?_
  rw [hw4]
  refine Ev.congr (fun k => if_neg z3) ?_
  rw [hw2]
  refine Ev.congr (fun k => if_pos z7) ?_
  refine Ev.congr (fun k => if_pos z4) ?_
  rw [hxx]
  refine Ev.congr (fun k => if_pos z9) ?_
  simp only [Option.bind_some]
  rw [bytesOf_S, toI_length]
  refine hx_digs hP.1 hX h4 ?_ X [] rfl
  refine Ev.step (fun k => by simp only [platenlaw06_FloatsHexBack.l1]; rfl) ?_
  refine Ev.congr (fun k => if_neg (Int.lt_irrefl _)) ?_
  rw [hw1]
  refine Ev.congr (fun k => if_pos z8) ?_
  refine Ev.congr (fun k => if_pos z5) ?_
  rw [hb1]
  clear hb1 hxx hw1 hw2 hw4 z1 z2 z3 z4 z5 z6 z7 z8 z9
  rcases hg with c | c
  · subst c
    rw [if_neg (by decide)] at hY
    refine Ev.congr (fun k => if_neg (by decide)) ?_
    rw [w64 (x := x + (val X : Int)) (by omega) (by omega), ← hY]
    exact hend
  · subst c
    rw [if_pos rfl] at hY
    refine Ev.congr (fun k => if_pos (by decide)) ?_
    rw [w64 (x := -(val X : Int)) (by omega) (by omega), w64 (x := x + -(val X : Int)) (by omega) (by omega), ← hY]
    exact hend
theorem pow_form (e : Int) (he : -5000 ≤ e ∧ e ≤ 5000) : ∃ (g : UInt8) (X : List UInt8), powL [112] e 2 = 112 :: g :: X ∧ (g = 43 ∨ g = 45) ∧ AllD X ∧ 2 ≤ X.length ∧ X.length ≤ 4 ∧ (if g = 45 then -(val X : Int) else (val X : Int)) = e := by
  have hn : e.natAbs < 10000 := by omega
  have hb4 : (bT 10 e.natAbs).length ≤ 4 := bF_small 10 63 e.natAbs 3 (by omega)
  have hX : AllD (zsL (2 - ((bT 10 e.natAbs).length : Int)).toNat ++ bT 10 e.natAbs) := (zsL_all _).append (bF_all 63 _)
  have hv : val (zsL (2 - ((bT 10 e.natAbs).length : Int)).toNat ++ bT 10 e.natAbs) = e.natAbs := by rw [val_zsL, val_bT hn]
  have hlen : (zsL (2 - ((bT 10 e.natAbs).length : Int)).toNat ++ bT 10 e.natAbs).length = (2 - ((bT 10 e.natAbs).length : Int)).toNat + (bT 10 e.natAbs).length := by rw [List.length_append, zsL_len]
  by_cases c : e < 0
  · refine ⟨45, _, ?_, .inr rfl, hX, by rw [hlen]; omega, by rw [hlen]; omega, ?_⟩
    · unfold powL; rw [if_pos c]; rfl
    · rw [if_pos rfl, hv]; omega
  · refine ⟨43, _, ?_, .inl rfl, hX, by rw [hlen]; omega, by rw [hlen]; omega, ?_⟩
    · unfold powL; rw [if_neg c]; rfl
    · rw [if_neg (by decide), hv]; omega
theorem exact_small (m : Nat) (hm : m < 18446744073709551616) {e : Int} (he : -1200 ≤ e ∧ e ≤ 1200) : Ev (fun k => bigdec_Exact.f k (m : Int) e) (S (exD m e).1, (exD m e).2, 0) := by
  have h := exact_eq m e hm
  rw [exactS_exD m he] at h
  exact h
theorem lead_is (m : Nat) (h0 : m ≠ 0) (Q : List UInt8) : ((bt (S ([48, 120] ++ 49 :: Q)) 2 == 49) == decide ((m : Int) > 0)) = true := by
  have hb : bt (S ([48, 120] ++ 49 :: Q)) 2 = ((49 : UInt8).toNat : Int) := bt_mid [48, 120] 49 Q
  rw [hb, decide_eq_true (by omega)]
  rfl
theorem exD_nought (q : Int) : exD 0 q = ([], 0) := by
  unfold exD
  rw [Nat.zero_mul]
  exact decOf_zero _
theorem hex_zero (e : Int) (he : -1074 ≤ e ∧ e ≤ 1100) : Ev (fun k => platenlaw06_FloatsHexBack.l0 k ((0 : Nat) : Int) e (S [48, 120, 48, 112, 43, 48, 48]) 0 0 2) true := by
  have h1 := exact_small 0 (by decide) (e := e) (by omega)
  have h2 := exact_small 0 (by decide) (e := 0) (by omega)
  rw [exD_nought] at h1 h2
  have hb : bt (S [48, 120, 48, 112, 43, 48, 48]) 2 = ((48 : UInt8).toNat : Int) := bt_mid [48, 120] 48 [112, 43, 48, 48]
  have hend := hx_end (M := ((0 : Nat) : Int)) (e' := e) (Y := 0) (P := [48, 120, 48]) (g := 43) (X := [48, 48]) (G := ((0 : Nat) : Int)) (x := 0) (.inl rfl) (by decide) (by unfold AllD; decide) (by decide) (by decide) (by decide) (by decide) (end_same (d := ([], 0)) (by decide) h1 h2 (by show ((bt (S [48, 120, 48, 112, 43, 48, 48]) 2 == 49) == _) = true; rw [hb]; decide))
  exact hx_step (P := [48, 120]) (c := 48) (R := [112, 43, 48, 48]) (g := 0) (x := 0) (.inl ⟨by decide, by decide⟩) (by decide) (by decide) (by decide) (by decide) hend
theorem hex_some {m : Nat} (h0 : m ≠ 0) (hm : m < 9007199254740992) {e : Int} (he : -1074 ≤ e ∧ e ≤ 1100) {D : List UInt8} {n : Nat} (hD : AllH D) (hD15 : D.length ≤ 15) (hG : hvF 1 D < 2305843009213693952) (heq : exD (hvF 1 D) (e + n - 1 - 4 * (D.length : Int)) = exD m e) (hb1 : 1 ≤ n) (hb53 : n ≤ 53) :
    7 ≤ ([48, 120] ++ (ptL false [49] D ++ powL [112] (e + n - 1) 2)).length ∧ ([48, 120] ++ (ptL false [49] D ++ powL [112] (e + n - 1) 2)).take 2 = [48, 120] ∧
      Ev (fun k => platenlaw06_FloatsHexBack.l0 k (m : Int) e (S ([48, 120] ++ (ptL false [49] D ++ powL [112] (e + n - 1) 2))) 0 0 2) true := by
  obtain ⟨g, X, hpw, hg, hX, h2, h4, hval⟩ := pow_form (e + n - 1) (by omega)
  have z1 := exact_small m (by omega) (e := e) (by omega)
  have z2 := exact_small (hvF 1 D) (by omega) (e := e + n - 1 - 4 * (D.length : Int)) (by omega)
  rw [heq] at z2
  clear heq
  have hlead := lead_is m h0
  rw [hpw]
  clear hpw
  unfold ptL
  by_cases cD : D = []
  · subst cD
    rw [if_pos ⟨rfl, rfl⟩]
    refine ⟨by simp; omega, by simp, ?_⟩
    have e0 : [48, 120] ++ ([49] ++ 112 :: g :: X) = [48, 120, 49] ++ 112 :: g :: X := by simp
    refine hx_step (P := [48, 120]) (c := 49) (R := 112 :: g :: X) (g := 0) (x := 0) (.inl ⟨by decide, by decide⟩) (by decide) (by simp; omega) (by decide) (by decide) ?_
    rw [if_neg (by decide)]
    exact hx_end (M := (m : Int)) (e' := e) (Y := e + n - 1 - 4 * ((([] : List UInt8).length : Nat) : Int)) (P := [48, 120, 49]) (g := g) (X := X) (G := ((hvF 1 [] : Nat) : Int)) (x := 0) hg (by decide) hX h2 h4 (by decide) (by rw [hval]; simp) (end_same (d := exD m e) (by rw [size_S]; simp; omega) z1 z2 (hlead (112 :: g :: X)))
  · rw [if_neg (fun h => cD h.1)]
    refine ⟨by simp; omega, by simp, ?_⟩
    refine hx_step (P := [48, 120]) (c := 49) (R := 46 :: D ++ 112 :: g :: X) (g := 0) (x := 0) (.inl ⟨by decide, by decide⟩) (by decide) (by simp; omega) (by decide) (by decide) ?_
    rw [if_neg (by decide)]
    show Ev (fun k => platenlaw06_FloatsHexBack.l0 k (m : Int) e (S ([48, 120, 49] ++ 46 :: (D ++ 112 :: g :: X))) ((1 : Nat) : Int) 0 (([48, 120, 49] : List UInt8).length : Int)) true
    refine hx_dot [48, 120, 49] (D ++ 112 :: g :: X) _ 0 (by simp; omega) ?_
    show Ev (fun k => platenlaw06_FloatsHexBack.l0 k (m : Int) e (S ([48, 120, 49, 46] ++ (D ++ 112 :: g :: X))) ((1 : Nat) : Int) 0 (([48, 120, 49, 46] : List UInt8).length : Int)) true
    refine hx_many (112 :: g :: X) D [48, 120, 49, 46] 1 0 hD (by decide) (by simp; omega) (by omega) (by omega) (by decide) ?_
    have e1 : [48, 120, 49, 46] ++ (D ++ 112 :: g :: X) = ([48, 120, 49, 46] ++ D) ++ 112 :: g :: X := by simp
    have e2 : ((([48, 120, 49, 46] : List UInt8).length + D.length : Nat) : Int) = (([48, 120, 49, 46] ++ D).length : Int) := by rw [List.length_append]
    have hl2 := hlead (46 :: (D ++ 112 :: g :: X))
    rw [show [48, 120] ++ 49 :: (46 :: (D ++ 112 :: g :: X)) = ([48, 120, 49, 46] ++ D) ++ 112 :: g :: X by simp] at hl2
    rw [e1, e2]
    exact hx_end (M := (m : Int)) (e' := e) (Y := e + n - 1 - 4 * (D.length : Int)) (P := [48, 120, 49, 46] ++ D) (g := g) (X := X) (G := ((hvF 1 D : Nat) : Int)) (x := 0 - 4 * (D.length : Int)) hg (by simp; omega) hX h2 h4 (by omega) (by rw [hval]; omega) (end_same (d := exD m e) (by rw [size_S]; simp; omega) z1 z2 hl2)
theorem hex_walk {m : Nat} (hm : m < 9007199254740992) {e : Int} (he : -1074 ≤ e ∧ e ≤ 1100) :
    7 ≤ (hexL m e (-1) false false).length ∧ (hexL m e (-1) false false).take 2 = [48, 120] ∧
      Ev (fun k => platenlaw06_FloatsHexBack.l0 k (m : Int) e (S (hexL m e (-1) false false)) 0 0 2) true := by
  by_cases h0 : m = 0
  · subst h0
    have ht : hexL 0 e (-1) false false = [48, 120, 48, 112, 43, 48, 48] := by
      unfold hexL
      rw [if_pos rfl]
      decide
    rw [ht]
    exact ⟨by decide, by decide, hex_zero e he⟩
  · obtain ⟨D, hT, hD, hD15, hG, heq, hb1, hb53⟩ := hex_part h0 hm e
    rw [hT]
    exact hex_some h0 hm he hD hD15 hG heq hb1 hb53
theorem hex_text (wide : Bool) {p : Nat} (hp : p < ii wide) :
    floatS wide p false false false false false (-1) (-1) 120 = (S (hexL (fM (ff wide) p) ((fE (ff wide) p : Int) - (ll wide : Int)) (-1) false false), true) := by
  have hc : codeV 120 = 5 := by decide
  have hn : (p / tt wide % 2 == 1) = false := by
    have := (ii_lt wide).2.1
    rw [Nat.div_eq_of_lt (by omega)]
    rfl
  have hs : signL false 0 false false = [] := by unfold signL; simp
  have hk : clamp (-1) = -1 := by decide
  unfold floatS
  rw [hc, if_neg (by decide), bare_fin wide hp, if_pos hp, hn, end_none _ _ _ _ (by decide), hs, List.nil_append, hk]
  unfold restL
  rw [hc, if_neg (by decide), if_neg (by decide), if_neg (by decide), if_neg (by decide)]
  rfl
theorem hex_all {sz : Option Int} {fin : Int → Option Int} {pa : Int → Int → Option (Bool × Int × Int × Int)} {ba : Option (Bool × Bool × Bool × Bool × Bool × Int × Int × Int)}
    {ff : Nat → Int → Int → Bool → Bool → Bool → Bool → Bool → Int → Int → Int → Option (ByteArray × Bool)} {j0 : Nat → Int → Int → ByteArray → Bool → Option Bool} {n P M E x11 : Int} {T : ByteArray} {sg : Bool}
    (h1 : sz = some n) (h2 : fin n = some P) (h3 : pa P n = some (sg, M, E, x11)) (h4 : ba = some (false, false, false, false, false, -1, -1, 120))
    (f1 : Ev (fun k => ff k P n false false false false false (-1) (-1) 120) (T, true)) (hT : ¬ (T.size : Int) < 7) (hx : ((T.extract 0 2).toList != ([48, 120] : List UInt8)) = false) (f2 : Ev (fun k => j0 k M E T false) true) :
    Ev (fun k => sz.bind fun t1035 => ((fin t1035).bind fun t1036 => ((pa t1036 t1035).bind fun bt1037 => (ba.bind fun bt1041 => ((ff k t1036 t1035 bt1041.1 bt1041.2.1 bt1041.2.2.1 bt1041.2.2.2.1 bt1041.2.2.2.2.1 bt1041.2.2.2.2.2.1 bt1041.2.2.2.2.2.2.1 bt1041.2.2.2.2.2.2.2).bind fun bt1049 => (if bt1049.2 = true then (if (bt1049.1.size : Int) < 7 then (j0 k bt1037.2.1 bt1037.2.2.1 bt1049.1 true) else (if (0 : Int) ≤ 2 then (if 2 ≤ (bt1049.1.size : Int) then (j0 k bt1037.2.1 bt1037.2.2.1 bt1049.1 ((bt1049.1.extract 0 2).toList != ([48, 120] : List UInt8))) else (none)) else (none))) else (j0 k bt1037.2.1 bt1037.2.2.1 bt1049.1 true))))))) true := by
  subst h1 h4
  simp only [Option.bind_some]
  rw [h2]
  simp only [Option.bind_some]
  rw [h3]
  simp only [Option.bind_some]
  refine Ev.bind f1 ?_
  refine Ev.congr (fun k => if_pos rfl) ?_
  refine Ev.congr (fun k => if_neg hT) ?_
  refine Ev.congr (fun k => if_pos (by decide)) ?_
  refine Ev.congr (fun k => if_pos (show (2 : Int) ≤ (T.size : Int) by omega)) ?_
  rw [hx]
  exact f2
theorem FloatsHexBack : ∀ (a0_0 : Int) (a0_1 : Bool), (Lit.int .u64 a0_0).wf = true → ∃ k, platenlaw06_FloatsHexBack.f k a0_0 a0_1 = some true := by
  intro a0 wide h0
  obtain ⟨a, rfl, ha⟩ := wf_u64 h0
  refine Ev.rounds (g := fun k => platenlaw06_FloatsHexBack.f k (a : Int) wide) ?_
  obtain ⟨p, hf, hp⟩ := finite6 wide a ha
  have hi := ii_lt wide
  have hm := (fE_le wide (Nat.le_of_lt hp)).2
  have he := fEl wide (Nat.le_of_lt hp)
  obtain ⟨w1, w2, w3⟩ := hex_walk hm he
  have f1 := float_ev wide (a := p) (by omega) false false false false false (-1) (-1) 120
  rw [hex_text wide hp] at f1
  have hpa := parts_eq wide p (by omega)
  have hps : partsS wide p = (false, (fM (ff wide) p : Int), (fE (ff wide) p : Int) - (ll wide : Int), 0) := by
    unfold partsS
    rw [bare_fin wide hp, if_pos hp, Nat.div_eq_of_lt (by omega)]
    rfl
  rw [hps] at hpa
  have f2 : Ev (fun k => platenlaw06_FloatsHexBack.j0 k (fM (ff wide) p : Int) ((fE (ff wide) p : Int) - (ll wide : Int)) (S (hexL (fM (ff wide) p) ((fE (ff wide) p : Int) - (ll wide : Int)) (-1) false false)) false) true := by
    refine Ev.step (fun k => by simp only [platenlaw06_FloatsHexBack.j0]; rfl) ?_
    exact Ev.congr (fun k => if_neg (by simp)) w3
  exact hex_all (fin := fun n => platenlaw06_finite.f (a : Int) n) (pa := fun x n => short_Parts.f x n) (ff := floats_Float.f) (j0 := platenlaw06_FloatsHexBack.j0) (sized6 wide) hf hpa rfl f1 (by rw [size_S]; omega)
    (by rw [S_take, w2, toList_L, L_S]; decide) f2
end Go.Proofs.YtecpgdfnamkfdaaGreatDoor.Pure
end
