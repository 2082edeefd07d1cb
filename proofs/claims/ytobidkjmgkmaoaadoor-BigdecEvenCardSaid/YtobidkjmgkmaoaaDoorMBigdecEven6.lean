/- The law BigdecEven: the walks through its functions and its plain law (part 6). Own texts and the kit's printed words for this seat, without what the law does not use: put together by merge.py (of this work). -/
import Derived.Test.YtobidkjmgkmaoaaDoorMBigdecEven5
import Derived.Handy
section
namespace Go.Proofs.YtobidkjmgkmaoaaDoor.Pure
open Go.RowKit Go.Proofs.YtobidkjmgkmaoaaDoorW.PrintWords Go.Proofs.YtobidkjmgkmaoaaDoor.Fn
set_option linter.unusedVariables false
set_option linter.unusedSimpArgs false
theorem S_app (a b : List UInt8) : S a ++ S b = S (a ++ b) := by
  apply ByteArray.ext
  rw [ByteArray.data_append]
  show a.toArray ++ b.toArray = (a ++ b).toArray
  simp
theorem digs_five (m : Nat) : digs (10 * m + 5) = digs m ++ [53] := by
  rw [digs_step (show 10 * m + 5 ≠ 0 by omega), show (10 * m + 5) / 10 = m by omega, show (10 * m + 5) % 10 = 5 by omega]
  rfl
theorem rz_five (m : Nat) : rz (digs m ++ [53]) = digs m ++ [53] := rz_snoc_ne (by decide)
theorem even_form (m : Nat) (A : Int) : InForm (digs (10 * m + 5)) A := by
  refine ⟨allD_digs _, head0_digs _, ?_, fun h => absurd h (digs_ne (by omega))⟩
  rw [digs_five]
  exact rz_five m
theorem even_dec (m : Nat) (A : Int) (n : Nat) (hn : (digs m).length = n) : (digs (10 * m + 5), A) = decOf (10 * m + 5) (A - n - 1) := by
  have h := decOf_val (even_form m A)
  rw [val_digs, digs_five, List.length_append, List.length_singleton, hn] at h
  rw [digs_five, ← h]
  congr 1
  omega
theorem even_round (m : Nat) (A : Int) (n : Nat) (hn : (digs m).length = n) : roundN (digs (10 * m + 5)) A n = decOf (if m % 2 = 0 then m else m + 1) (A - n) := by
  have hl : (digs (10 * m + 5)).length = n + 1 := by rw [digs_five, List.length_append, hn]; rfl
  have ht : (digs (10 * m + 5)).take n = digs m := by rw [digs_five, ← hn, List.take_left]
  have hd : (digs (10 * m + 5)).drop n = [53] := by rw [digs_five, ← hn, List.drop_left]
  have hdn : downP (digs (10 * m + 5)) n ↔ m % 2 = 0 := by
    unfold downP
    rw [ht, hd, hl, val_digs, show val [53] = 5 from rfl, show n + 1 - n = 1 by omega]
    omega
  unfold roundN
  rw [if_neg (by omega), if_neg (by omega), Int.toNat_natCast, ht, val_digs]
  by_cases c : m % 2 = 0
  · rw [if_pos (hdn.2 c), if_pos c]
  · rw [if_neg (mt hdn.1 c), if_neg c]
theorem even_half {m q n : Nat} {A : Int} (hn : (digs m).length = n) (hm : m < 4294967296) (hq : q = m ∨ q = m + 1) (hnl : n ≤ 10) (hA : -1000 ≤ A ∧ A ≤ 1000) :
    Ev (fun k => platenlaw04_half.f k (S (decOf q (A - n)).1) (decOf q (A - n)).2 (S (digs (10 * m + 5))) A (A - n)) true := by
  have e1 := even_dec m A n hn
  have e2 : decOf q (A - n) = decOf (10 * q) (A - n - 1) := (decOf_ten q (A - n)).symm
  have h := half_eq (x := 10 * q) (y := 10 * m + 5) (E := A - n - 1) (u := A - n) (K := 11) (by omega) (by omega) (by omega) (by omega) (by omega) (by omega)
  rw [← e2, ← e1, show (A - (n : Int) - (A - n - 1)).toNat = 1 by omega, decide_eq_true (by omega)] at h
  exact h
theorem even_end (m : Nat) (hm : m < 4294967296) (A : Int) (hA : -1000 ≤ A ∧ A ≤ 1000) : Ev (fun k => platenlaw04_BigdecEven.l0 k (m : Int) A 0 (S (digs (10 * m + 5)))) true := by
  obtain ⟨n, hn⟩ : ∃ n, (digs m).length = n := ⟨_, rfl⟩
  have hnl : n ≤ 10 := by rw [← hn]; exact digs_len 10 m (by omega)
  have hl : (digs (10 * m + 5)).length = n + 1 := by rw [digs_five, List.length_append, hn]; rfl
  have hr := roundS_eq (S (digs (10 * m + 5))) A n
  rw [roundS_of (even_form m A) (by omega) (by omega), even_round m A n hn] at hr
  generalize hq : (if m % 2 = 0 then m else m + 1) = q at hr
  have hq2 : q = m ∨ q = m + 1 := by split at hq <;> omega
  have hqe : q % 2 = 0 := by split at hq <;> omega
  have hh := even_half hn hm hq2 hnl hA
  refine Ev.step (f := fun k => (bigdec_Round.f k (S (digs (10 * m + 5))) A (n : Int)).bind fun bt456 => (if bt456.2.2 = 0 then (if (m : Int) = 0 then (if (bt456.1.toList == ([] : List UInt8) && (bt456.2.1 == 0)) = true then ((platenlaw04_lives.f k).bind fun t460 => (some t460)) else (some false)) else (if (wrap64 ((wrap64 ((n - 1 : Int) + bt456.2.1)) - A)) ≥ 0 then (platenlaw04_BigdecEven.j1 k A (S (digs (10 * m + 5))) 48 (wrap64 ((wrap64 ((n - 1 : Int) + bt456.2.1)) - A)) (decide ((wrap64 ((wrap64 ((n - 1 : Int) + bt456.2.1)) - A)) < (bt456.1.size : Int))) bt456.1 bt456.2.1) else (platenlaw04_BigdecEven.j1 k A (S (digs (10 * m + 5))) 48 (wrap64 ((wrap64 ((n - 1 : Int) + bt456.2.1)) - A)) false bt456.1 bt456.2.1))) else (some false))) (fun k => ?_) (Ev.bind hr ?_)
  · simp only [platenlaw04_BigdecEven.l0]
    rw [if_neg (by omega), size_S, hl, show ((n + 1 : Nat) : Int) - 1 = n by omega, show ((n + 1 : Nat) : Int) - 2 = n - 1 by omega, wrap_id (x := (n : Int)) (by omega) (by omega), wrap_id (x := (n : Int) - 1) (by omega) (by omega)]
  · by_cases c0 : m = 0
    · have q0 : q = 0 := by subst c0; rw [← hq]; rfl
      subst c0
      rw [q0]
      exact Ev.congr (fun k => by rw [if_pos rfl, if_pos (by omega), decOf_zero, if_pos (by show ((S []).toList == ([] : List UInt8) && ((0 : Int) == 0)) = true; rw [toList_L, L_S]; rfl)]) livesEndH
    · have hq0 : q ≠ 0 := by omega
      have hdq : decOf q (A - n) = (rz (digs q), (digs q).length + (A - n)) := by unfold decOf; rw [if_neg hq0]
      have hql : 0 < (digs q).length := List.length_pos_iff.2 (digs_ne hq0)
      have hql2 : (digs q).length ≤ 11 := digs_len 11 q (by omega)
      obtain ⟨i, hi⟩ : ∃ i : Nat, (digs q).length = i + 1 := ⟨(digs q).length - 1, by omega⟩
      have hrl := length_rz (digs q)
      have hx : wrap64 (wrap64 ((n - 1 : Int) + (decS (decOf q (A - n))).2) - A) = (i : Int) := by
        rw [hdq]
        show wrap64 (wrap64 ((n - 1 : Int) + ((digs q).length + (A - n))) - A) = (i : Int)
        rw [wrap_id (x := (n - 1 : Int) + ((digs q).length + (A - n))) (by omega) (by omega), wrap_id (x := (n - 1 : Int) + ((digs q).length + (A - n)) - A) (by omega) (by omega)]
        omega
      have hfin : ∀ f : Bool, (f = true → (i : Int) < ((decS (decOf q (A - n))).1.size : Int)) → Ev (fun k => platenlaw04_BigdecEven.j1 k A (S (digs (10 * m + 5))) 48 (i : Int) f (decS (decOf q (A - n))).1 (decS (decOf q (A - n))).2) true := by
        intro f hf
        have hu : wrap64 (wrap64 (A - ((S (digs (10 * m + 5))).size : Int)) + 1) = A - n := by
          rw [size_S, hl, wrap_id (x := A - ((n + 1 : Nat) : Int)) (by omega) (by omega), wrap_id (x := A - ((n + 1 : Nat) : Int) + 1) (by omega) (by omega)]
          omega
        have hend : Ev (fun k => ((platenlaw04_half.f k (decS (decOf q (A - n))).1 (decS (decOf q (A - n))).2 (S (digs (10 * m + 5))) A (A - n)).bind fun t463 => (if t463 = true then ((platenlaw04_lives.f k).bind fun t464 => (some t464)) else (some false)))) true := by
          refine Ev.bind (f := fun k t463 => (if t463 = true then ((platenlaw04_lives.f k).bind fun t464 => (some t464)) else (some false))) hh ?_
          exact Ev.congr (fun k => by rw [if_pos rfl]) livesEndH
        refine Ev.step (fun k => ?_) hend
        simp only [platenlaw04_BigdecEven.j1]
        cases f with
        | false => rw [if_neg (by simp), if_pos (by decide), hu]
        | true =>
          have h1 := hf rfl
          have h2 : (decS (decOf q (A - n))).1 = S (rz (digs q)) := by rw [hdq]; rfl
          rw [h2, size_S] at h1
          obtain ⟨k0, hk0⟩ := rz_prefix (digs q)
          have hk0l := congrArg List.length hk0
          rw [List.length_append, List.length_replicate] at hk0l
          have hkz : k0 = 0 := by omega
          rw [hkz, List.replicate_zero, List.append_nil] at hk0
          rw [if_pos rfl, if_pos (by omega), if_pos (by rw [h2, size_S]; exact h1), h2]
          have hlast : (rz (digs q))[i]'(by omega) = ch (q % 10) := by
            have e : digs q = digs (q / 10) ++ [ch (q % 10)] := digs_step hq0
            have e4 : (digs (q / 10)).length = i := by have := congrArg List.length e; rw [List.length_append, List.length_singleton] at this; omega
            have e5 : ∀ (l : List UInt8) (h : i < l.length), l = digs (q / 10) ++ [ch (q % 10)] → l[i] = ch (q % 10) := by
              intro l h hl'
              subst hl'
              rw [List.getElem_append_right (by omega)]
              simp [e4]
            exact e5 _ _ (hk0.symm.trans e)
          have hbt : bt (S (rz (digs q))) (i : Int) = ((ch (q % 10)).toNat : Int) := by
            rw [bt_L _ i (by rw [size_S]; omega)]
            exact congrArg (fun c : UInt8 => (c.toNat : Int)) hlast
          rw [hbt, ch_toNat (by omega), if_pos (by omega), hu]
      refine Ev.congr (fun k => by rw [if_pos rfl, if_neg (by omega)]) ?_
      show Ev (fun k => if wrap64 (wrap64 ((n - 1 : Int) + (decS (decOf q (A - n))).2) - A) ≥ 0 then platenlaw04_BigdecEven.j1 k A (S (digs (10 * m + 5))) 48 (wrap64 (wrap64 ((n - 1 : Int) + (decS (decOf q (A - n))).2) - A)) (decide (wrap64 (wrap64 ((n - 1 : Int) + (decS (decOf q (A - n))).2) - A) < ((decS (decOf q (A - n))).1.size : Int))) (decS (decOf q (A - n))).1 (decS (decOf q (A - n))).2 else platenlaw04_BigdecEven.j1 k A (S (digs (10 * m + 5))) 48 (wrap64 (wrap64 ((n - 1 : Int) + (decS (decOf q (A - n))).2) - A)) false (decS (decOf q (A - n))).1 (decS (decOf q (A - n))).2) true
      rw [hx]
      exact Ev.congr (fun k => by rw [if_pos (by omega)]) (hfin _ (fun h => of_decide_eq_true h))
theorem even_loop (m : Nat) (hm : m < 4294967296) (A : Int) (hA : -1000 ≤ A ∧ A ≤ 1000) : ∀ (v : Nat) (t : List UInt8), v < 429496729600 → digs v ++ t = digs (10 * m + 5) → Ev (fun k => platenlaw04_BigdecEven.l0 k (m : Int) A (v : Int) (S t)) true := by
  intro v
  induction v using Nat.strongRecOn with
  | ind v ih =>
    intro t hv ht
    by_cases c : v = 0
    · subst c
      rw [digs_zero, List.nil_append] at ht
      rw [ht]
      exact even_end m hm A hA
    · have hs := digs_step c
      have hlen : t.length ≤ 11 := by
        have h1 := congrArg List.length ht
        rw [List.length_append] at h1
        have h2 : (digs (10 * m + 5)).length ≤ 11 := digs_len 11 _ (by omega)
        omega
      have hnext := ih (v / 10) (by omega) (ch (v % 10) :: t) (by omega) (by rw [hs, List.append_assoc] at ht; exact ht)
      refine Ev.step (fun k => ?_) hnext
      simp only [platenlaw04_BigdecEven.l0]
      have e1 : Int.tmod (v : Int) 10 = ((v % 10 : Nat) : Int) := by rw [tmod_id (x := (v : Int)) (by omega)]; omega
      have e2 : Int.tdiv (v : Int) 10 = ((v / 10 : Nat) : Int) := by rw [tdiv_id (x := (v : Int)) (by omega)]; omega
      have e3 : (IntKind.u64.wrap (48 + ((v % 10 : Nat) : Int))) % 256 = ((ch (v % 10)).toNat : Int) := by rw [u64_id (x := 48 + ((v % 10 : Nat) : Int)) (by omega) (by omega), ch_toNat (by omega)]; omega
      have e4 : strOfNums [((ch (v % 10)).toNat : Int)] = S [ch (v % 10)] := strOf_toI [ch (v % 10)]
      rw [if_pos (by omega), Option.bind_some, e1, e2, e3, e4, if_pos (by rw [size_S, size_S]; simp; omega), u64_id (x := ((v / 10 : Nat) : Int)) (by omega) (by omega), S_app]
      rfl
theorem BigdecEven : ∀ (a0 : Int) (a1 : Int), (Lit.int .u32 a0).wf = true → (Lit.int .i64 a1).wf = true → ∃ k, platenlaw04_BigdecEven.f k a0 a1 = some true := by
  intro a0 a1 h0 h1
  simp [Lit.wf, IntKind.min, IntKind.max, IntKind.signed, IntKind.bits] at h0 h1
  obtain ⟨m, rfl⟩ : ∃ m : Nat, a0 = (m : Int) := ⟨a0.toNat, by omega⟩
  have e1 : mx (-1000) (mn a1 1000) = max (-1000) (min a1 1000) := by unfold mx mn; split <;> split <;> omega
  have e2 : IntKind.u64.wrap (IntKind.u64.wrap (IntKind.u64.wrap (m : Int) * 10) + 5) = ((10 * m + 5 : Nat) : Int) := by
    rw [u64_id (x := (m : Int)) (by omega) (by omega), u64_id (x := (m : Int) * 10) (by omega) (by omega), u64_id (x := (m : Int) * 10 + 5) (by omega) (by omega)]
    omega
  have h := even_loop m (by omega) (max (-1000) (min a1 1000)) (by omega) (10 * m + 5) [] (by omega) (List.append_nil _)
  have main : Ev (fun k => platenlaw04_BigdecEven.f k (m : Int) a1) true := by
    unfold platenlaw04_BigdecEven.f
    rw [e1, e2]
    exact h
  exact main.rounds
end Go.Proofs.YtobidkjmgkmaoaaDoor.Pure
end
