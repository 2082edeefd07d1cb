/- The law FloatsOdd: the walks through its functions and its plain law (part 7). Own texts and the kit's printed words for this seat, without what the law does not use: put together by merge.py (of this work). -/
import Derived.Test.YtecpgdfnamkfdaaGreatDoorMFloatsOdd6
import Derived.Handy
section
namespace Go.Proofs.YtecpgdfnamkfdaaGreatDoor.Pure
open Go.RowKit Go.Proofs.YtecpgdfnamkfdaaGreatDoorW.PrintWords Go.Proofs.YtecpgdfnamkfdaaGreatDoorW.PrintLast Go.Proofs.YtecpgdfnamkfdaaGreatDoorW.PrintMore Go.Proofs.YtecpgdfnamkfdaaGreatDoor.Fn
set_option linter.unusedVariables false
set_option linter.unusedSimpArgs false
def codeV (v : Int) : Int := if v = 101 ∨ v = 69 then 1 else if v = 102 ∨ v = 70 then 2 else if v = 103 ∨ v = 71 ∨ v = 118 then 3 else if v = 98 then 4 else if v = 120 ∨ v = 88 then 5 else 0
theorem chosen_at (v : Int) (k : Nat) : floats_chosen.f (k + 3) v = some (codeV v) := by
  unfold codeV floats_chosen.f
  simp only [floats_chosen.j0, floats_chosen.j1, floats_chosen.j2]
  by_cases d1 : v = 101
  · subst d1; rfl
  by_cases d2 : v = 69
  · subst d2; rfl
  by_cases d3 : v = 102
  · subst d3; rfl
  by_cases d4 : v = 70
  · subst d4; rfl
  by_cases d5 : v = 103
  · subst d5; rfl
  by_cases d6 : v = 71
  · subst d6; rfl
  by_cases d7 : v = 118
  · subst d7; rfl
  by_cases d8 : v = 98
  · subst d8; rfl
  by_cases d9 : v = 120
  · subst d9; rfl
  by_cases d10 : v = 88
  · subst d10; rfl
  simp [d1, d2, d3, d4, d5, d6, d7, d8, d9, d10]
theorem chosen_ev (v : Int) : Ev (fun k => floats_chosen.f k v) (codeV v) :=
  ⟨3, fun k hk => by obtain ⟨j, rfl⟩ : ∃ j, k = j + 3 := ⟨k - 3, by omega⟩; exact chosen_at v j⟩
theorem codeV_le (v : Int) : 0 ≤ codeV v ∧ codeV v ≤ 5 := by
  unfold codeV
  repeat' split
  all_goals decide
def signL (neg : Bool) (kind : Int) (plus space : Bool) : List UInt8 := if neg = true ∧ kind ≠ 2 then [45] else if plus then [43] else if space then [32] else if kind = 1 then [43] else []
theorem signL_ok (neg : Bool) (kind : Int) (plus space : Bool) : (signL neg kind plus space).length ≤ 1 ∧ Asc (signL neg kind plus space) := by
  unfold signL
  repeat' split
  all_goals exact ⟨by decide, by decide⟩
def clamp (prec : Int) : Int := max (-1) (min prec 1000)
theorem clamp_ok (prec : Int) : -1 ≤ clamp prec ∧ clamp prec ≤ 1000 := by unfold clamp; omega
def restL (wide : Bool) (p m : Nat) (e prec v : Int) (sharp : Bool) : List UInt8 :=
  if codeV v = 1 then scaledL (sharp && v != 118) (bigV v) (exD m e) (six prec)
  else if codeV v = 2 then fixedL (sharp && v != 118) (exD m e) (six prec)
  else if codeV v = 3 then genOf wide p m e prec (sharp && v != 118) (bigV v)
  else if codeV v = 4 then binL m e
  else hexL m e prec (sharp && v != 118) (v == 88)
def Fit (l : List UInt8) : Prop := Asc l ∧ l.length ≤ 100000
theorem sci_fit {l : List UInt8} (h : Asc l) (hl : l.length ≤ 50000) (dot big : Bool) (e : Int) : Fit (sciL dot big l e) := by
  refine ⟨sciL_asc h dot big e, ?_⟩
  have h1 := ptL_len dot (l.take 1) (l.drop 1)
  have h2 := powL_len (eMark big) (e := e) (least := 2) (by decide)
  have hm : (eMark big).length = 1 := by cases big <;> rfl
  rw [List.length_take, List.length_drop] at h1
  unfold sciL
  rw [List.length_append]
  omega
theorem around_fit {l : List UInt8} (h : Asc l) (hl : l.length ≤ 20000) (dot : Bool) {p : Int} (hp : -20000 ≤ p ∧ p ≤ 20000) : Fit (aroundL dot l p) := by
  refine ⟨aroundL_asc h dot p, ?_⟩
  have hf := fillL_len l p
  unfold aroundL
  split
  · have h1 := ptL_len dot [48] (zsL (-p).toNat ++ l)
    rw [List.length_append, zsL_len] at h1
    simp at h1
    omega
  · have h1 := ptL_len dot ((fillL l p).take p.toNat) ((fillL l p).drop p.toNat)
    rw [List.length_take, List.length_drop] at h1
    omega
theorem scaled_fit {v : List UInt8 × Int} (h : Near v) (dot big : Bool) {p : Int} (hp : 0 ≤ p ∧ p ≤ 1000) : Fit (scaledL dot big v p) := by
  have hb := round_bound h (p + 1)
  have hf := fillL_len (roundN v.1 v.2 (p + 1)).1 (p + 1)
  exact sci_fit (fillL_asc (round_form h.form (p + 1)).1.asc _) (by omega) dot big _
theorem fixed_fit {v : List UInt8 × Int} (h : Near v) (dot : Bool) {p : Int} (hp : 0 ≤ p ∧ p ≤ 1000) : Fit (fixedL dot v p) := by
  have hb := round_bound h (v.2 + p)
  have ha := (round_form h.form (v.2 + p)).1.asc
  unfold fixedL
  generalize roundN v.1 v.2 (v.2 + p) = d at *
  split
  · refine ⟨ptL_asc (by decide) (zsL_asc _) dot, ?_⟩
    have h1 := ptL_len dot [48] (zsL p.toNat)
    rw [zsL_len] at h1
    simp at h1
    omega
  · split
    · refine ⟨ptL_asc (by decide) (fillL_asc ((zsL_asc _).app ha) _) dot, ?_⟩
      have h1 := ptL_len dot [48] (fillL (zsL (-d.2).toNat ++ d.1) p)
      have hf := fillL_len (zsL (-d.2).toNat ++ d.1) p
      rw [List.length_append, zsL_len] at hf
      simp at h1
      omega
    · have hf := fillL_len d.1 (d.2 + p)
      exact around_fit (fillL_asc ha _) (by omega) dot (by omega)
theorem gen_fit {d : List UInt8 × Int} (ha : Asc d.1) (hd : d.1.length ≤ 2000 ∧ -4000 ≤ d.2 ∧ d.2 ≤ 1500) (dot big : Bool) {keep top : Int} (hk : 1 ≤ keep ∧ keep ≤ 1000) : Fit (genL dot big d keep top) := by
  have hfb := firstL_bound (d := d) hd.2
  unfold genL
  dsimp only
  have hl : Asc (if d.1 = [] then [48] else d.1) ∧ (if d.1 = [] then ([48] : List UInt8) else d.1).length ≤ 2000 := by
    split
    · exact ⟨by decide, by decide⟩
    · exact ⟨ha, hd.1⟩
  generalize (if d.1 = [] then ([48] : List UInt8) else d.1) = l at *
  have hm : Asc (if dot = true then fillL l keep else l) ∧ (if dot = true then fillL l keep else l).length ≤ 3000 := by
    have hf := fillL_len l keep
    split
    · exact ⟨fillL_asc hl.1 _, by omega⟩
    · exact ⟨hl.1, by omega⟩
  split
  · exact sci_fit hm.1 (by omega) dot big _
  · exact around_fit hm.1 (by omega) dot (by omega)
theorem shortL_ok (wide : Bool) {p : Nat} (hp : p < ii wide) : InForm (shortL wide p).1 (shortL wide p).2 ∧ (shortL wide p).1.length ≤ 2000 ∧ -4000 ≤ (shortL wide p).2 ∧ (shortL wide p).2 ≤ 1500 := by
  unfold shortL
  by_cases c : p = 0
  · rw [if_pos c]; exact ⟨⟨AllD.nil, fun c t e => (by cases e), rfl, fun _ => rfl⟩, by decide, by decide, by decide⟩
  · rw [if_neg c]
    obtain ⟨M, h1, h2, h3⟩ := short_spec wide p
    have hv := exV_val wide hp
    have hl := hv.len
    have hlo := hv.lo
    have hhi := hv.hi
    rcases best_some h2 with ⟨_, e⟩ | ⟨hn, u, hu, e, _⟩
    · rw [e]; exact ⟨hv.form, by omega, by omega, by omega⟩
    · have hc := cU_lt hv M hn
      have hu1 : u < 10 ^ (M + 1) := by
        rw [Nat.pow_succ]
        have : 1 ≤ 10 ^ M := Nat.pow_pos (by decide)
        rcases hu with hu | hu <;> omega
      have hb := decOf_bound hu1 (cE (exV wide p) M)
      rw [e]
      unfold cE at hb ⊢
      exact ⟨inForm_decOf _ _, by omega, by omega, by omega⟩
theorem genOf_fit (wide : Bool) {p : Nat} (hp : p < ii wide) {m : Nat} (hm : m < 18446744073709551616) {e : Int} (h : -1200 ≤ e ∧ e ≤ 1200) {prec : Int} (hq : -1 ≤ prec ∧ prec ≤ 1000) (dot big : Bool) : Fit (genOf wide p m e prec dot big) := by
  unfold genOf
  split
  · have := shortL_ok wide hp
    exact gen_fit this.1.1.asc this.2 dot big (by decide)
  · have hn := exD_near hm h
    have hb := round_bound hn (max prec 1)
    exact gen_fit (round_form hn.form _).1.asc (by omega) dot big (by omega)
theorem bin_fit (m : Nat) (e : Int) : Fit (binL m e) := by
  refine ⟨(bT_asc (by decide) m).app (powL_asc (by decide) e 1), ?_⟩
  have h1 := bT_len 10 m
  have h2 := powL_len ([112] : List UInt8) (e := e) (least := 1) (by decide)
  unfold binL
  rw [List.length_append]
  simp at h2
  omega
set_option maxRecDepth 100000 in
theorem upper_asc (b : UInt8) (h : b.toNat < 128) : (Lib.upperB b).toNat < 128 := by
  have key : ∀ n : Fin 256, n.val < 128 → (Lib.upperB (UInt8.ofNat n.val)).toNat < 128 := by decide
  have := key ⟨b.toNat, b.toNat_lt⟩ h
  rwa [UInt8.ofNat_toNat] at this
theorem hexEnd_fit {lead ds : List UInt8} (hl : lead.length ≤ 10 ∧ Asc lead) (hd : ds.length ≤ 2000 ∧ Asc ds) (dot up : Bool) (x : Int) : Fit (hexEnd dot up lead ds x) := by
  have h1 := ptL_len dot lead ds
  have h2 := powL_len ([112] : List UInt8) (e := x) (least := 2) (by decide)
  have ha : Asc ([48, 120] ++ (ptL dot lead ds ++ powL [112] x 2)) := Asc.app (by decide) ((ptL_asc hl.2 hd.2 dot).app (powL_asc (by decide) x 2))
  have hlen : ([48, 120] ++ (ptL dot lead ds ++ powL [112] x 2)).length ≤ 100000 := by simp at h2 ⊢; omega
  unfold hexEnd
  split
  · refine ⟨fun c hc => ?_, by unfold Lib.toUpperA; rw [List.length_map]; exact hlen⟩
    unfold Lib.toUpperA at hc
    obtain ⟨b, hb, rfl⟩ := List.mem_map.1 hc
    exact upper_asc b (ha b hb)
  · exact ⟨ha, hlen⟩
theorem hexTail_fit (dot up : Bool) {lead : List UInt8} (hl : lead.length ≤ 10 ∧ Asc lead) {part : Nat} (hp : part ≤ 18446744073709551615) (x : Int) {prec : Int} (hq : -1 ≤ prec ∧ prec ≤ 1000) : Fit (hexTail dot up lead part x prec) := by
  have hs := sixL_len hp
  unfold hexTail
  split
  · exact hexEnd_fit hl ⟨by have := rz_len (sixL part); omega, rz_asc (six_asc _)⟩ dot up x
  · split
    · have hf := fillL_len (sixL part) prec
      exact hexEnd_fit hl ⟨by omega, fillL_asc (six_asc _) _⟩ dot up x
    · unfold hexMid
      dsimp only
      refine hexEnd_fit hl ?_ dot up _
      split
      · exact ⟨by decide, Asc.nil⟩
      · refine ⟨?_, (six_asc _).take _⟩
        rw [List.length_take]
        omega
theorem hex_fit (m : Nat) (e : Int) {prec : Int} (hq : -1 ≤ prec ∧ prec ≤ 1000) (dot up : Bool) : Fit (hexL m e prec dot up) := by
  unfold hexL
  split
  · exact hexTail_fit dot up ⟨by decide, by decide⟩ (by decide) _ hq
  · exact hexTail_fit dot up ⟨by decide, by decide⟩ (by omega) _ hq
theorem six_ok {prec : Int} (hq : -1 ≤ prec ∧ prec ≤ 1000) : 0 ≤ six prec ∧ six prec ≤ 1000 := by unfold six; split <;> omega
theorem rest_fit (wide : Bool) {p : Nat} (hp : p < ii wide) {m : Nat} (hm : m < 18446744073709551616) {e : Int} (h : -1200 ≤ e ∧ e ≤ 1200) {prec : Int} (hq : -1 ≤ prec ∧ prec ≤ 1000) (v : Int) (sharp : Bool) : Fit (restL wide p m e prec v sharp) := by
  have hn := exD_near hm h
  unfold restL
  repeat' split
  · exact scaled_fit hn _ _ (six_ok hq)
  · exact fixed_fit hn _ (six_ok hq)
  · exact genOf_fit wide hp hm h hq _ _
  · exact bin_fit m e
  · exact hex_fit m e hq _ _
def endL (sign rest : List UInt8) (minus zero : Bool) (wid : Int) : List UInt8 :=
  padL (sign ++ (if zero && !minus then List.replicate (max 0 (min wid 1000) - sign.length - rest.length).toNat 48 ++ rest else rest)) minus false wid
theorem end_ev {sign rest : List UInt8} (hs : sign.length ≤ 1 ∧ Asc sign) (hr : Fit rest) (plus minus sharp space zero : Bool) (wid prec v : Int) :
    Ev (fun k => floats_Float.j3 k (S sign) (S rest) plus minus sharp space zero wid prec v) (S (endL sign rest minus zero wid), true) := by
  have ha := hr.1
  have hl := hr.2
  have key : ∀ u : Bool, Ev (fun k => floats_Float.j4 k (S sign) (S rest) u plus minus sharp space zero wid prec v) (S (padL (sign ++ (if u then List.replicate (max 0 (min wid 1000) - sign.length - rest.length).toNat 48 ++ rest else rest)) minus false wid), true) := by
    intro u
    refine Ev.step (fun k => by simp only [floats_Float.j4]; rfl) ?_
    cases u with
    | true =>
      refine Ev.congr (fun k => if_pos rfl) ?_
      rw [if_pos rfl, size_S, size_S, mx_eq, mn_eq, w64 (x := max 0 (min wid 1000) - (sign.length : Int)) (by omega) (by omega), w64 (by omega) (by omega)]
      have hf := fill_eq 48 (max 0 (min wid 1000) - (sign.length : Int) - (rest.length : Int))
      rw [show (((48 : UInt8).toNat : Nat) : Int) = 48 from rfl, show (min (max 0 (min wid 1000) - (sign.length : Int) - (rest.length : Int)) 1000).toNat = (max 0 (min wid 1000) - (sign.length : Int) - (rest.length : Int)).toNat by omega] at hf
      rw [hf]
      simp only [Option.bind_some]
      generalize hz : (max 0 (min wid 1000) - (sign.length : Int) - (rest.length : Int)).toNat = n
      have hn : n ≤ 1000 := by omega
      refine Ev.congr (fun k => if_pos (by rw [size_S, List.length_replicate]; omega)) ?_
      rw [S_app2]
      refine Ev.congr (fun k => if_pos (by rw [size_S, List.length_append, List.length_replicate]; omega)) ?_
      rw [S_app2, pad_eq (hs.2.app ((Asc.rep n (by decide)).app ha)) (by rw [List.length_append, List.length_append, List.length_replicate]; omega)]
      exact Ev.now _
    | false =>
      refine Ev.congr (fun k => if_neg (by simp)) ?_
      show Ev _ (S (padL (sign ++ rest) minus false wid), true)
      refine Ev.congr (fun k => if_pos (by rw [size_S, size_S]; omega)) ?_
      rw [S_app2, pad_eq (hs.2.app ha) (by rw [List.length_append]; omega)]
      exact Ev.now _
  refine Ev.step (fun k => by simp only [floats_Float.j3]; rfl) ?_
  unfold endL
  cases zero with
  | true => exact Ev.congr (fun k => if_pos rfl) (key (!minus))
  | false => exact Ev.congr (fun k => if_neg (by simp)) (key false)
def floatS (wide : Bool) (a : Nat) (plus minus sharp space zero : Bool) (wid prec v : Int) : ByteArray × Bool :=
  if codeV v = 0 then (⟨#[]⟩, false)
  else if bareN wide a < ii wide then (S (endL (signL (a / tt wide % 2 == 1) 0 plus space) (restL wide (bareN wide a) (fM (ff wide) (bareN wide a)) ((fE (ff wide) (bareN wide a) : Int) - (ll wide : Int)) (clamp prec) v sharp) minus zero wid), true)
  else if bareN wide a = ii wide then (S (endL (signL (a / tt wide % 2 == 1) 1 plus space) [73, 110, 102] minus false wid), true)
  else (S (endL (signL (a / tt wide % 2 == 1) 2 plus space) [78, 97, 78] minus false wid), true)
theorem sign_ev {R : ByteArray × Bool} (x0 x1 x9 x10 x11 x12 : Int) (neg plus minus sharp space zero : Bool) (wid prec v : Int)
    (h : Ev (fun k => floats_Float.j2 k x0 x1 x9 x10 x11 x12 (S (signL neg x11 plus space)) plus minus sharp space zero wid prec v) R) (u : Bool) (hu : u = decide (neg = true ∧ x11 ≠ 2)) :
    Ev (fun k => floats_Float.j1 k x0 x1 x9 x10 x11 x12 (⟨#[]⟩ : ByteArray) u plus minus sharp space zero wid prec v) R := by
  unfold signL at h
  refine Ev.step (fun k => by simp only [floats_Float.j1]; rfl) ?_
  by_cases c : neg = true ∧ x11 ≠ 2
  · have : u = true := by rw [hu]; exact decide_eq_true c
    subst this
    rw [if_pos c] at h
    exact Ev.congr (fun k => if_pos rfl) h
  · have : u = false := by rw [hu]; exact decide_eq_false c
    subst this
    rw [if_neg c] at h
    refine Ev.congr (fun k => if_neg (by simp)) ?_
    cases plus with
    | true => exact Ev.congr (fun k => if_pos rfl) h
    | false =>
      refine Ev.congr (fun k => if_neg (by simp)) ?_
      cases space with
      | true => exact Ev.congr (fun k => if_pos rfl) h
      | false =>
        refine Ev.congr (fun k => if_neg (by simp)) ?_
        by_cases c1 : x11 = 1
        · rw [if_neg (by simp), if_neg (by simp), if_pos c1] at h
          exact Ev.congr (fun k => if_pos c1) h
        · rw [if_neg (by simp), if_neg (by simp), if_neg c1] at h
          exact Ev.congr (fun k => if_neg c1) h
theorem mxn_clamp (prec : Int) : mx (-1) (mn prec 1000) = clamp prec := by rw [mx_eq, mn_eq]; rfl
theorem rest_ev (wide : Bool) {a p : Nat} (ha : a < 18446744073709551616) (hb : bareN wide a = p) (hp : p < ii wide) {m : Nat} (hm : m < 18446744073709551616) {e : Int} (h : -1200 ≤ e ∧ e ≤ 1200) {sign : List UInt8} (hs : sign.length ≤ 1 ∧ Asc sign) (plus minus sharp space zero : Bool) (wid prec v : Int) (hc : codeV v ≠ 0) :
    Ev (fun k => floats_Float.j2 k (a : Int) (szB wide) (m : Int) e 0 (codeV v) (S sign) plus minus sharp space zero wid prec v) (S (endL sign (restL wide p m e (clamp prec) v sharp) minus zero wid), true) := by
  have hq := clamp_ok prec
  have hfit := rest_fit wide hp hm h hq v sharp
  have hend := end_ev hs hfit plus minus sharp space zero wid prec v
  have hsl := (shortL_ok wide hp).2
  have hcl := codeV_le v
  refine Ev.step (fun k => by simp only [floats_Float.j2]; rfl) ?_
  refine Ev.congr (fun k => if_neg (by decide)) ?_
  refine Ev.congr (fun k => if_neg (by decide)) ?_
  rw [mxn_clamp]
  have way : ∀ dot : Bool, dot = (sharp && v != 118) → Ev (fun k => if codeV v = 1 then ((floats_float_scaled.f k (a : Int) (szB wide) (m : Int) e (clamp prec) dot v).bind fun t456 => (floats_Float.j3 k (S sign) t456 plus minus sharp space zero wid prec v)) else (if codeV v = 2 then ((floats_float_fixed.f k (a : Int) (szB wide) (m : Int) e (clamp prec) dot v).bind fun t457 => (floats_Float.j3 k (S sign) t457 plus minus sharp space zero wid prec v)) else (if codeV v = 3 then ((floats_float_general.f k (a : Int) (szB wide) (m : Int) e (clamp prec) dot v).bind fun t458 => (floats_Float.j3 k (S sign) t458 plus minus sharp space zero wid prec v)) else (if codeV v = 4 then ((floats_float_binary.f (a : Int) (szB wide) (m : Int) e (clamp prec) dot v).bind fun t459 => (floats_Float.j3 k (S sign) t459 plus minus sharp space zero wid prec v)) else (if codeV v = 5 then ((floats_float_hex.f k (a : Int) (szB wide) (m : Int) e (clamp prec) dot v).bind fun t460 => (floats_Float.j3 k (S sign) t460 plus minus sharp space zero wid prec v)) else none)))))
      (S (endL sign (restL wide p m e (clamp prec) v sharp) minus zero wid), true) := by
    intro dot hd
    unfold restL at hend ⊢
    rw [← hd] at hend ⊢
    by_cases c1 : codeV v = 1
    · rw [if_pos c1] at hend ⊢
      exact Ev.congr (fun k => if_pos c1) (Ev.bind (scaled_ev _ _ hm h hq v dot) hend)
    · rw [if_neg c1] at hend ⊢
      refine Ev.congr (fun k => if_neg c1) ?_
      by_cases c2 : codeV v = 2
      · rw [if_pos c2] at hend ⊢
        exact Ev.congr (fun k => if_pos c2) (Ev.bind (fixed_ev _ _ hm h hq v dot) hend)
      · rw [if_neg c2] at hend ⊢
        refine Ev.congr (fun k => if_neg c2) ?_
        by_cases c3 : codeV v = 3
        · rw [if_pos c3] at hend ⊢
          exact Ev.congr (fun k => if_pos c3) (Ev.bind (gen_ev wide ha hb hp hsl hm h hq v dot) hend)
        · rw [if_neg c3] at hend ⊢
          refine Ev.congr (fun k => if_neg c3) ?_
          by_cases c4 : codeV v = 4
          · rw [if_pos c4] at hend ⊢
            refine Ev.congr (fun k => if_pos c4) ?_
            rw [binary_eq _ _ _ _ _ (by omega) (by omega)]
            exact hend
          · rw [if_neg c4] at hend ⊢
            refine Ev.congr (fun k => if_neg c4) ?_
            exact Ev.congr (fun k => if_pos (by omega)) (Ev.bind (hex_ev _ _ v dot hm h hq) hend)
  cases sharp with
  | true => exact Ev.congr (fun k => if_pos rfl) (way (v != 118) (by simp))
  | false => exact Ev.congr (fun k => if_neg (by simp)) (way false rfl)
theorem float_ev (wide : Bool) {a : Nat} (ha : a < 18446744073709551616) (plus minus sharp space zero : Bool) (wid prec v : Int) :
    Ev (fun k => floats_Float.f k (a : Int) (szB wide) plus minus sharp space zero wid prec v) (floatS wide a plus minus sharp space zero wid prec v) := by
  have hi := ii_lt wide
  unfold floats_Float.f floatS
  rw [parts_eq wide a ha]
  simp only [Option.bind_some]
  refine Ev.bind (chosen_ev v) ?_
  have hk : ∀ x : Int, x = (partsS wide a).2.2.2 → x ≠ 3 := by
    intro x hx
    rw [hx]
    unfold partsS
    split
    · exact (by decide : (0 : Int) ≠ 3)
    · dsimp only; split <;> decide
  refine Ev.congr (fun k => if_neg (hk _ rfl)) ?_
  refine Ev.step (fun k => by simp only [floats_Float.j0]; rfl) ?_
  by_cases c0 : codeV v = 0
  · rw [if_pos c0]
    exact Ev.congr (fun k => if_pos (beq_iff_eq.mpr c0)) (Ev.now _)
  · rw [if_neg c0]
    refine Ev.congr (fun k => if_neg (by rw [beq_eq_false_iff_ne.mpr c0]; simp)) ?_
    have signs : ∀ {R : ByteArray × Bool} (x9 x10 x11 : Int) (neg : Bool), Ev (fun k => floats_Float.j2 k (a : Int) (szB wide) x9 x10 x11 (codeV v) (S (signL neg x11 plus space)) plus minus sharp space zero wid prec v) R →
        Ev (fun k => if neg = true then (floats_Float.j1 k (a : Int) (szB wide) x9 x10 x11 (codeV v) (⟨#[]⟩ : ByteArray) (x11 != 2) plus minus sharp space zero wid prec v) else (floats_Float.j1 k (a : Int) (szB wide) x9 x10 x11 (codeV v) (⟨#[]⟩ : ByteArray) false plus minus sharp space zero wid prec v)) R := by
      intro R x9 x10 x11 neg h
      cases neg with
      | true => exact Ev.congr (fun k => if_pos rfl) (sign_ev _ _ _ _ _ _ true plus minus sharp space zero wid prec v h _ (by rw [Bool.eq_iff_iff]; simp))
      | false => exact Ev.congr (fun k => if_neg (by simp)) (sign_ev _ _ _ _ _ _ false plus minus sharp space zero wid prec v h _ (by rw [Bool.eq_iff_iff]; simp))
    by_cases c1 : bareN wide a < ii wide
    · rw [if_pos c1]
      have hb := fEl wide (Nat.le_of_lt c1)
      have hb2 := fE_le wide (Nat.le_of_lt c1)
      have e1 : partsS wide a = ((a / tt wide % 2 == 1 : Bool), (fM (ff wide) (bareN wide a) : Int), (fE (ff wide) (bareN wide a) : Int) - (ll wide : Int), 0) := by
        unfold partsS; rw [if_pos c1]
      rw [e1]
      exact signs _ _ _ _ (rest_ev (m := fM (ff wide) (bareN wide a)) (e := (fE (ff wide) (bareN wide a) : Int) - (ll wide : Int)) wide ha rfl c1 (by omega) (by omega) (signL_ok _ _ _ _) plus minus sharp space zero wid prec v c0)
    · rw [if_neg c1]
      have e1 : partsS wide a = ((a / tt wide % 2 == 1 : Bool), 0, 0, if bareN wide a = ii wide then 1 else 2) := by
        unfold partsS; rw [if_neg c1]
      rw [e1]
      by_cases c2 : bareN wide a = ii wide
      · rw [if_pos c2, if_pos c2]
        refine signs _ _ _ _ ?_
        refine Ev.step (fun k => by simp only [floats_Float.j2]; rfl) ?_
        refine Ev.congr (fun k => if_neg (by decide)) ?_
        refine Ev.congr (fun k => if_pos (by first | trivial | rfl)) ?_
        exact end_ev (rest := [73, 110, 102]) (signL_ok _ _ _ _) ⟨by decide, by decide⟩ plus minus sharp space false wid prec v
      · rw [if_neg c2, if_neg c2]
        refine signs _ _ _ _ ?_
        refine Ev.step (fun k => by simp only [floats_Float.j2]; rfl) ?_
        refine Ev.congr (fun k => if_pos (by first | trivial | rfl)) ?_
        exact end_ev (rest := [78, 97, 78]) (signL_ok _ _ _ _) ⟨by decide, by decide⟩ plus minus sharp space false wid prec v
end Go.Proofs.YtecpgdfnamkfdaaGreatDoor.Pure
end
section
namespace Go.Proofs.YtecpgdfnamkfdaaGreatDoor.Fn
open Go.RowKit Go.Proofs.YtecpgdfnamkfdaaGreatDoorW.PrintWords Go.Proofs.YtecpgdfnamkfdaaGreatDoorW.PrintLast Go.Proofs.YtecpgdfnamkfdaaGreatDoorW.PrintMore
attribute [local go_sem] fnW_0 fnW_1 fnW_2 fnW_3 fnW_4 fnW_5 fnW_guard fnW_eql max2_int min2_int max_two min_two
set_option linter.unusedVariables false
set_option linter.unusedSimpArgs false
def platenlaw06_lives.f (k : Nat)  : Option (Bool) := (platenlaw06_bare.f 101).bind fun bt820 => ((floats_Float.f k 4609434218613702656 64 bt820.1 bt820.2.1 bt820.2.2.1 bt820.2.2.2.1 bt820.2.2.2.2.1 bt820.2.2.2.2.2.1 bt820.2.2.2.2.2.2.1 bt820.2.2.2.2.2.2.2).bind fun bt828 => ((platenlaw06_bare.f 118).bind fun bt830 => ((floats_Float.f k 4591870180066957722 64 bt830.1 bt830.2.1 bt830.2.2.1 bt830.2.2.2.1 bt830.2.2.2.2.1 bt830.2.2.2.2.2.1 bt830.2.2.2.2.2.2.1 bt830.2.2.2.2.2.2.2).bind fun bt838 => ((platenlaw06_bare.f 100).bind fun bt840 => ((floats_Float.f k 0 64 bt840.1 bt840.2.1 bt840.2.2.1 bt840.2.2.2.1 bt840.2.2.2.2.1 bt840.2.2.2.2.2.1 bt840.2.2.2.2.2.2.1 bt840.2.2.2.2.2.2.2).bind fun bt848 => (if bt828.2 = true then (if bt838.2 = true then (if bt848.2 = true then (some false) else (if bt828.1.toList = ([49, 46, 53, 48, 48, 48, 48, 48, 101, 43, 48, 48] : List UInt8) then (some (bt838.1.toList == ([48, 46, 49] : List UInt8))) else (some false))) else (some false)) else (some false)))))))
set_option maxHeartbeats 8000000 in
set_option maxRecDepth 100000 in
theorem platenlaw06_lives.calls (k : Nat)  (r : Bool) (w : World) (h : platenlaw06_lives.f k  = some r) :
  Calls Tryz.prog 23 #[] w fun e w' => e = .returned (.bool r) ∧ Below w.heap.size w w' := by
 have HB := Aside0.mk (Below.refl w.heap.size w)
 have H : ((platenlaw06_bare.f 101).bind fun bt820 => ((floats_Float.f k 4609434218613702656 64 bt820.1 bt820.2.1 bt820.2.2.1 bt820.2.2.2.1 bt820.2.2.2.2.1 bt820.2.2.2.2.2.1 bt820.2.2.2.2.2.2.1 bt820.2.2.2.2.2.2.2).bind fun bt828 => ((platenlaw06_bare.f 118).bind fun bt830 => ((floats_Float.f k 4591870180066957722 64 bt830.1 bt830.2.1 bt830.2.2.1 bt830.2.2.2.1 bt830.2.2.2.2.1 bt830.2.2.2.2.2.1 bt830.2.2.2.2.2.2.1 bt830.2.2.2.2.2.2.2).bind fun bt838 => ((platenlaw06_bare.f 100).bind fun bt840 => ((floats_Float.f k 0 64 bt840.1 bt840.2.1 bt840.2.2.1 bt840.2.2.2.1 bt840.2.2.2.2.1 bt840.2.2.2.2.2.1 bt840.2.2.2.2.2.2.1 bt840.2.2.2.2.2.2.2).bind fun bt848 => (if bt828.2 = true then (if bt838.2 = true then (if bt848.2 = true then (some false) else (if bt828.1.toList = ([49, 46, 53, 48, 48, 48, 48, 48, 101, 43, 48, 48] : List UInt8) then (some (bt838.1.toList == ([48, 46, 49] : List UInt8))) else (some false))) else (some false)) else (some false)))))))) = some r := h
 clear h
 replace H := bs H
 obtain ⟨⟨t820, t821, t822, t823, t824, t825, t826, t827⟩, A1, H⟩ := H
 dsimp only at H
 replace H := bs H
 obtain ⟨⟨t828, t829⟩, A2, H⟩ := H
 dsimp only at H
 replace H := bs H
 obtain ⟨⟨t830, t831, t832, t833, t834, t835, t836, t837⟩, A3, H⟩ := H
 dsimp only at H
 replace H := bs H
 obtain ⟨⟨t838, t839⟩, A4, H⟩ := H
 dsimp only at H
 replace H := bs H
 obtain ⟨⟨t840, t841, t842, t843, t844, t845, t846, t847⟩, A5, H⟩ := H
 dsimp only at H
 replace H := bs H
 obtain ⟨⟨t848, t849⟩, A6, H⟩ := H
 dsimp only at H
 by_cases c7 : t829 = true
 ·subst c7
  replace H := hT H
  by_cases c8 : t839 = true
  ·subst c8
   replace H := hT H
   by_cases c9 : t849 = true
   ·subst c9
    replace H := hT H
    obtain rfl := Option.some.inj H
    go_enter Tryz.func23, Tryz.ntmps23
    go_wp2_with (first | ((with_reducible refine gate_callee (f := 30) rfl ?_); refine goesL_ (some 8) rfl rfl Tryz.func30 (by kernel_rfl) rfl #[.int .i32 101] rfl lz ?_; (with_reducible refine (platenlaw06_bare.calls 101 t820 t821 t822 t823 t824 t825 t826 t827 _ A1.out).mono ?_); rintro e w10 ⟨rfl, hb⟩; refine ⟨_, rfl, ?_⟩; replace HB := bN bz hb; (try clear hb); (try clear hb2); (try clear hk); (try clear hi)) | ((with_reducible refine gate_callee (f := 25) rfl ?_); refine goesL_ (some 9) rfl rfl Tryz.func25 (by kernel_rfl) rfl #[.int .u64 4609434218613702656, .int .i64 64, .agg #[.bool t820, .bool t821, .bool t822, .bool t823, .bool t824, .int .i64 t825, .int .i64 t826, .int .i32 t827]] rfl lz ?_; (with_reducible refine (floats_Float.calls k 4609434218613702656 64 t820 t821 t822 t823 t824 t825 t826 t827 t828 true _ A2.out).mono ?_); rintro e w11 ⟨rfl, hb⟩; refine ⟨_, rfl, ?_⟩; replace HB := bN bz hb; (try clear hb); (try clear hb2); (try clear hk); (try clear hi)) | ((with_reducible refine gate_callee (f := 30) rfl ?_); refine goesL_ (some 13) rfl rfl Tryz.func30 (by kernel_rfl) rfl #[.int .i32 118] rfl lz ?_; (with_reducible refine (platenlaw06_bare.calls 118 t830 t831 t832 t833 t834 t835 t836 t837 _ A3.out).mono ?_); rintro e w12 ⟨rfl, hb⟩; refine ⟨_, rfl, ?_⟩; replace HB := bN bz hb; (try clear hb); (try clear hb2); (try clear hk); (try clear hi)) | ((with_reducible refine gate_callee (f := 25) rfl ?_); refine goesL_ (some 14) rfl rfl Tryz.func25 (by kernel_rfl) rfl #[.int .u64 4591870180066957722, .int .i64 64, .agg #[.bool t830, .bool t831, .bool t832, .bool t833, .bool t834, .int .i64 t835, .int .i64 t836, .int .i32 t837]] rfl lz ?_; (with_reducible refine (floats_Float.calls k 4591870180066957722 64 t830 t831 t832 t833 t834 t835 t836 t837 t838 true _ A4.out).mono ?_); rintro e w13 ⟨rfl, hb⟩; refine ⟨_, rfl, ?_⟩; replace HB := bN bz hb; (try clear hb); (try clear hb2); (try clear hk); (try clear hi)) | ((with_reducible refine gate_callee (f := 30) rfl ?_); refine goesL_ (some 18) rfl rfl Tryz.func30 (by kernel_rfl) rfl #[.int .i32 100] rfl lz ?_; (with_reducible refine (platenlaw06_bare.calls 100 t840 t841 t842 t843 t844 t845 t846 t847 _ A5.out).mono ?_); rintro e w14 ⟨rfl, hb⟩; refine ⟨_, rfl, ?_⟩; replace HB := bN bz hb; (try clear hb); (try clear hb2); (try clear hk); (try clear hi)) | ((with_reducible refine gate_callee (f := 25) rfl ?_); refine goesL_ (some 19) rfl rfl Tryz.func25 (by kernel_rfl) rfl #[.int .u64 0, .int .i64 64, .agg #[.bool t840, .bool t841, .bool t842, .bool t843, .bool t844, .int .i64 t845, .int .i64 t846, .int .i32 t847]] rfl lz ?_; (with_reducible refine (floats_Float.calls k 0 64 t840 t841 t842 t843 t844 t845 t846 t847 t848 true _ A6.out).mono ?_); rintro e w15 ⟨rfl, hb⟩; refine ⟨_, rfl, ?_⟩; replace HB := bN bz hb; (try clear hb); (try clear hb2); (try clear hk); (try clear hi)))
    go_ret
    exact ⟨ez, bz⟩
   ·replace c9 := Bool.eq_false_iff.mpr c9
    subst c9
    replace H := hF H
    by_cases c16 : t828.toList = ([49, 46, 53, 48, 48, 48, 48, 48, 101, 43, 48, 48] : List UInt8)
    ·replace H := hE H c16
     have c16b0 : (t828.toList == ([49, 46, 53, 48, 48, 48, 48, 48, 101, 43, 48, 48] : List UInt8)) = true := beq_iff_eq.mpr c16
     have c16b1 : (t828.toList != ([49, 46, 53, 48, 48, 48, 48, 48, 101, 43, 48, 48] : List UInt8)) = false := bne_eq_false_iff_eq.mpr c16
     clear c16
     obtain rfl := Option.some.inj H
     go_enter Tryz.func23, Tryz.ntmps23
     go_wp2_with (first | ((with_reducible refine gate_callee (f := 30) rfl ?_); refine goesL_ (some 8) rfl rfl Tryz.func30 (by kernel_rfl) rfl #[.int .i32 101] rfl lz ?_; (with_reducible refine (platenlaw06_bare.calls 101 t820 t821 t822 t823 t824 t825 t826 t827 _ A1.out).mono ?_); rintro e w17 ⟨rfl, hb⟩; refine ⟨_, rfl, ?_⟩; replace HB := bN bz hb; (try clear hb); (try clear hb2); (try clear hk); (try clear hi)) | ((with_reducible refine gate_callee (f := 25) rfl ?_); refine goesL_ (some 9) rfl rfl Tryz.func25 (by kernel_rfl) rfl #[.int .u64 4609434218613702656, .int .i64 64, .agg #[.bool t820, .bool t821, .bool t822, .bool t823, .bool t824, .int .i64 t825, .int .i64 t826, .int .i32 t827]] rfl lz ?_; (with_reducible refine (floats_Float.calls k 4609434218613702656 64 t820 t821 t822 t823 t824 t825 t826 t827 t828 true _ A2.out).mono ?_); rintro e w18 ⟨rfl, hb⟩; refine ⟨_, rfl, ?_⟩; replace HB := bN bz hb; (try clear hb); (try clear hb2); (try clear hk); (try clear hi)) | ((with_reducible refine gate_callee (f := 30) rfl ?_); refine goesL_ (some 13) rfl rfl Tryz.func30 (by kernel_rfl) rfl #[.int .i32 118] rfl lz ?_; (with_reducible refine (platenlaw06_bare.calls 118 t830 t831 t832 t833 t834 t835 t836 t837 _ A3.out).mono ?_); rintro e w19 ⟨rfl, hb⟩; refine ⟨_, rfl, ?_⟩; replace HB := bN bz hb; (try clear hb); (try clear hb2); (try clear hk); (try clear hi)) | ((with_reducible refine gate_callee (f := 25) rfl ?_); refine goesL_ (some 14) rfl rfl Tryz.func25 (by kernel_rfl) rfl #[.int .u64 4591870180066957722, .int .i64 64, .agg #[.bool t830, .bool t831, .bool t832, .bool t833, .bool t834, .int .i64 t835, .int .i64 t836, .int .i32 t837]] rfl lz ?_; (with_reducible refine (floats_Float.calls k 4591870180066957722 64 t830 t831 t832 t833 t834 t835 t836 t837 t838 true _ A4.out).mono ?_); rintro e w20 ⟨rfl, hb⟩; refine ⟨_, rfl, ?_⟩; replace HB := bN bz hb; (try clear hb); (try clear hb2); (try clear hk); (try clear hi)) | ((with_reducible refine gate_callee (f := 30) rfl ?_); refine goesL_ (some 18) rfl rfl Tryz.func30 (by kernel_rfl) rfl #[.int .i32 100] rfl lz ?_; (with_reducible refine (platenlaw06_bare.calls 100 t840 t841 t842 t843 t844 t845 t846 t847 _ A5.out).mono ?_); rintro e w21 ⟨rfl, hb⟩; refine ⟨_, rfl, ?_⟩; replace HB := bN bz hb; (try clear hb); (try clear hb2); (try clear hk); (try clear hi)) | ((with_reducible refine gate_callee (f := 25) rfl ?_); refine goesL_ (some 19) rfl rfl Tryz.func25 (by kernel_rfl) rfl #[.int .u64 0, .int .i64 64, .agg #[.bool t840, .bool t841, .bool t842, .bool t843, .bool t844, .int .i64 t845, .int .i64 t846, .int .i32 t847]] rfl lz ?_; (with_reducible refine (floats_Float.calls k 0 64 t840 t841 t842 t843 t844 t845 t846 t847 t848 false _ A6.out).mono ?_); rintro e w22 ⟨rfl, hb⟩; refine ⟨_, rfl, ?_⟩; replace HB := bN bz hb; (try clear hb); (try clear hb2); (try clear hk); (try clear hi)))
     go_ret
     exact ⟨ez, bz⟩
    ·replace H := hN H c16
     have c16b0 : (t828.toList == ([49, 46, 53, 48, 48, 48, 48, 48, 101, 43, 48, 48] : List UInt8)) = false := beq_eq_false_iff_ne.mpr c16
     have c16b1 : (t828.toList != ([49, 46, 53, 48, 48, 48, 48, 48, 101, 43, 48, 48] : List UInt8)) = true := bne_iff_ne.mpr c16
     obtain rfl := Option.some.inj H
     go_enter Tryz.func23, Tryz.ntmps23
     go_wp2_with (first | ((with_reducible refine gate_callee (f := 30) rfl ?_); refine goesL_ (some 8) rfl rfl Tryz.func30 (by kernel_rfl) rfl #[.int .i32 101] rfl lz ?_; (with_reducible refine (platenlaw06_bare.calls 101 t820 t821 t822 t823 t824 t825 t826 t827 _ A1.out).mono ?_); rintro e w23 ⟨rfl, hb⟩; refine ⟨_, rfl, ?_⟩; replace HB := bN bz hb; (try clear hb); (try clear hb2); (try clear hk); (try clear hi)) | ((with_reducible refine gate_callee (f := 25) rfl ?_); refine goesL_ (some 9) rfl rfl Tryz.func25 (by kernel_rfl) rfl #[.int .u64 4609434218613702656, .int .i64 64, .agg #[.bool t820, .bool t821, .bool t822, .bool t823, .bool t824, .int .i64 t825, .int .i64 t826, .int .i32 t827]] rfl lz ?_; (with_reducible refine (floats_Float.calls k 4609434218613702656 64 t820 t821 t822 t823 t824 t825 t826 t827 t828 true _ A2.out).mono ?_); rintro e w24 ⟨rfl, hb⟩; refine ⟨_, rfl, ?_⟩; replace HB := bN bz hb; (try clear hb); (try clear hb2); (try clear hk); (try clear hi)) | ((with_reducible refine gate_callee (f := 30) rfl ?_); refine goesL_ (some 13) rfl rfl Tryz.func30 (by kernel_rfl) rfl #[.int .i32 118] rfl lz ?_; (with_reducible refine (platenlaw06_bare.calls 118 t830 t831 t832 t833 t834 t835 t836 t837 _ A3.out).mono ?_); rintro e w25 ⟨rfl, hb⟩; refine ⟨_, rfl, ?_⟩; replace HB := bN bz hb; (try clear hb); (try clear hb2); (try clear hk); (try clear hi)) | ((with_reducible refine gate_callee (f := 25) rfl ?_); refine goesL_ (some 14) rfl rfl Tryz.func25 (by kernel_rfl) rfl #[.int .u64 4591870180066957722, .int .i64 64, .agg #[.bool t830, .bool t831, .bool t832, .bool t833, .bool t834, .int .i64 t835, .int .i64 t836, .int .i32 t837]] rfl lz ?_; (with_reducible refine (floats_Float.calls k 4591870180066957722 64 t830 t831 t832 t833 t834 t835 t836 t837 t838 true _ A4.out).mono ?_); rintro e w26 ⟨rfl, hb⟩; refine ⟨_, rfl, ?_⟩; replace HB := bN bz hb; (try clear hb); (try clear hb2); (try clear hk); (try clear hi)) | ((with_reducible refine gate_callee (f := 30) rfl ?_); refine goesL_ (some 18) rfl rfl Tryz.func30 (by kernel_rfl) rfl #[.int .i32 100] rfl lz ?_; (with_reducible refine (platenlaw06_bare.calls 100 t840 t841 t842 t843 t844 t845 t846 t847 _ A5.out).mono ?_); rintro e w27 ⟨rfl, hb⟩; refine ⟨_, rfl, ?_⟩; replace HB := bN bz hb; (try clear hb); (try clear hb2); (try clear hk); (try clear hi)) | ((with_reducible refine gate_callee (f := 25) rfl ?_); refine goesL_ (some 19) rfl rfl Tryz.func25 (by kernel_rfl) rfl #[.int .u64 0, .int .i64 64, .agg #[.bool t840, .bool t841, .bool t842, .bool t843, .bool t844, .int .i64 t845, .int .i64 t846, .int .i32 t847]] rfl lz ?_; (with_reducible refine (floats_Float.calls k 0 64 t840 t841 t842 t843 t844 t845 t846 t847 t848 false _ A6.out).mono ?_); rintro e w28 ⟨rfl, hb⟩; refine ⟨_, rfl, ?_⟩; replace HB := bN bz hb; (try clear hb); (try clear hb2); (try clear hk); (try clear hi)))
     go_ret
     exact ⟨ez, bz⟩
  ·replace c8 := Bool.eq_false_iff.mpr c8
   subst c8
   replace H := hF H
   obtain rfl := Option.some.inj H
   go_enter Tryz.func23, Tryz.ntmps23
   go_wp2_with (first | ((with_reducible refine gate_callee (f := 30) rfl ?_); refine goesL_ (some 8) rfl rfl Tryz.func30 (by kernel_rfl) rfl #[.int .i32 101] rfl lz ?_; (with_reducible refine (platenlaw06_bare.calls 101 t820 t821 t822 t823 t824 t825 t826 t827 _ A1.out).mono ?_); rintro e w29 ⟨rfl, hb⟩; refine ⟨_, rfl, ?_⟩; replace HB := bN bz hb; (try clear hb); (try clear hb2); (try clear hk); (try clear hi)) | ((with_reducible refine gate_callee (f := 25) rfl ?_); refine goesL_ (some 9) rfl rfl Tryz.func25 (by kernel_rfl) rfl #[.int .u64 4609434218613702656, .int .i64 64, .agg #[.bool t820, .bool t821, .bool t822, .bool t823, .bool t824, .int .i64 t825, .int .i64 t826, .int .i32 t827]] rfl lz ?_; (with_reducible refine (floats_Float.calls k 4609434218613702656 64 t820 t821 t822 t823 t824 t825 t826 t827 t828 true _ A2.out).mono ?_); rintro e w30 ⟨rfl, hb⟩; refine ⟨_, rfl, ?_⟩; replace HB := bN bz hb; (try clear hb); (try clear hb2); (try clear hk); (try clear hi)) | ((with_reducible refine gate_callee (f := 30) rfl ?_); refine goesL_ (some 13) rfl rfl Tryz.func30 (by kernel_rfl) rfl #[.int .i32 118] rfl lz ?_; (with_reducible refine (platenlaw06_bare.calls 118 t830 t831 t832 t833 t834 t835 t836 t837 _ A3.out).mono ?_); rintro e w31 ⟨rfl, hb⟩; refine ⟨_, rfl, ?_⟩; replace HB := bN bz hb; (try clear hb); (try clear hb2); (try clear hk); (try clear hi)) | ((with_reducible refine gate_callee (f := 25) rfl ?_); refine goesL_ (some 14) rfl rfl Tryz.func25 (by kernel_rfl) rfl #[.int .u64 4591870180066957722, .int .i64 64, .agg #[.bool t830, .bool t831, .bool t832, .bool t833, .bool t834, .int .i64 t835, .int .i64 t836, .int .i32 t837]] rfl lz ?_; (with_reducible refine (floats_Float.calls k 4591870180066957722 64 t830 t831 t832 t833 t834 t835 t836 t837 t838 false _ A4.out).mono ?_); rintro e w32 ⟨rfl, hb⟩; refine ⟨_, rfl, ?_⟩; replace HB := bN bz hb; (try clear hb); (try clear hb2); (try clear hk); (try clear hi)) | ((with_reducible refine gate_callee (f := 30) rfl ?_); refine goesL_ (some 18) rfl rfl Tryz.func30 (by kernel_rfl) rfl #[.int .i32 100] rfl lz ?_; (with_reducible refine (platenlaw06_bare.calls 100 t840 t841 t842 t843 t844 t845 t846 t847 _ A5.out).mono ?_); rintro e w33 ⟨rfl, hb⟩; refine ⟨_, rfl, ?_⟩; replace HB := bN bz hb; (try clear hb); (try clear hb2); (try clear hk); (try clear hi)) | ((with_reducible refine gate_callee (f := 25) rfl ?_); refine goesL_ (some 19) rfl rfl Tryz.func25 (by kernel_rfl) rfl #[.int .u64 0, .int .i64 64, .agg #[.bool t840, .bool t841, .bool t842, .bool t843, .bool t844, .int .i64 t845, .int .i64 t846, .int .i32 t847]] rfl lz ?_; (with_reducible refine (floats_Float.calls k 0 64 t840 t841 t842 t843 t844 t845 t846 t847 t848 t849 _ A6.out).mono ?_); rintro e w34 ⟨rfl, hb⟩; refine ⟨_, rfl, ?_⟩; replace HB := bN bz hb; (try clear hb); (try clear hb2); (try clear hk); (try clear hi)))
   go_ret
   exact ⟨ez, bz⟩
 ·replace c7 := Bool.eq_false_iff.mpr c7
  subst c7
  replace H := hF H
  obtain rfl := Option.some.inj H
  go_enter Tryz.func23, Tryz.ntmps23
  go_wp2_with (first | ((with_reducible refine gate_callee (f := 30) rfl ?_); refine goesL_ (some 8) rfl rfl Tryz.func30 (by kernel_rfl) rfl #[.int .i32 101] rfl lz ?_; (with_reducible refine (platenlaw06_bare.calls 101 t820 t821 t822 t823 t824 t825 t826 t827 _ A1.out).mono ?_); rintro e w35 ⟨rfl, hb⟩; refine ⟨_, rfl, ?_⟩; replace HB := bN bz hb; (try clear hb); (try clear hb2); (try clear hk); (try clear hi)) | ((with_reducible refine gate_callee (f := 25) rfl ?_); refine goesL_ (some 9) rfl rfl Tryz.func25 (by kernel_rfl) rfl #[.int .u64 4609434218613702656, .int .i64 64, .agg #[.bool t820, .bool t821, .bool t822, .bool t823, .bool t824, .int .i64 t825, .int .i64 t826, .int .i32 t827]] rfl lz ?_; (with_reducible refine (floats_Float.calls k 4609434218613702656 64 t820 t821 t822 t823 t824 t825 t826 t827 t828 false _ A2.out).mono ?_); rintro e w36 ⟨rfl, hb⟩; refine ⟨_, rfl, ?_⟩; replace HB := bN bz hb; (try clear hb); (try clear hb2); (try clear hk); (try clear hi)) | ((with_reducible refine gate_callee (f := 30) rfl ?_); refine goesL_ (some 13) rfl rfl Tryz.func30 (by kernel_rfl) rfl #[.int .i32 118] rfl lz ?_; (with_reducible refine (platenlaw06_bare.calls 118 t830 t831 t832 t833 t834 t835 t836 t837 _ A3.out).mono ?_); rintro e w37 ⟨rfl, hb⟩; refine ⟨_, rfl, ?_⟩; replace HB := bN bz hb; (try clear hb); (try clear hb2); (try clear hk); (try clear hi)) | ((with_reducible refine gate_callee (f := 25) rfl ?_); refine goesL_ (some 14) rfl rfl Tryz.func25 (by kernel_rfl) rfl #[.int .u64 4591870180066957722, .int .i64 64, .agg #[.bool t830, .bool t831, .bool t832, .bool t833, .bool t834, .int .i64 t835, .int .i64 t836, .int .i32 t837]] rfl lz ?_; (with_reducible refine (floats_Float.calls k 4591870180066957722 64 t830 t831 t832 t833 t834 t835 t836 t837 t838 t839 _ A4.out).mono ?_); rintro e w38 ⟨rfl, hb⟩; refine ⟨_, rfl, ?_⟩; replace HB := bN bz hb; (try clear hb); (try clear hb2); (try clear hk); (try clear hi)) | ((with_reducible refine gate_callee (f := 30) rfl ?_); refine goesL_ (some 18) rfl rfl Tryz.func30 (by kernel_rfl) rfl #[.int .i32 100] rfl lz ?_; (with_reducible refine (platenlaw06_bare.calls 100 t840 t841 t842 t843 t844 t845 t846 t847 _ A5.out).mono ?_); rintro e w39 ⟨rfl, hb⟩; refine ⟨_, rfl, ?_⟩; replace HB := bN bz hb; (try clear hb); (try clear hb2); (try clear hk); (try clear hi)) | ((with_reducible refine gate_callee (f := 25) rfl ?_); refine goesL_ (some 19) rfl rfl Tryz.func25 (by kernel_rfl) rfl #[.int .u64 0, .int .i64 64, .agg #[.bool t840, .bool t841, .bool t842, .bool t843, .bool t844, .int .i64 t845, .int .i64 t846, .int .i32 t847]] rfl lz ?_; (with_reducible refine (floats_Float.calls k 0 64 t840 t841 t842 t843 t844 t845 t846 t847 t848 t849 _ A6.out).mono ?_); rintro e w40 ⟨rfl, hb⟩; refine ⟨_, rfl, ?_⟩; replace HB := bN bz hb; (try clear hb); (try clear hb2); (try clear hk); (try clear hi)))
  go_ret
  exact ⟨ez, bz⟩
end Go.Proofs.YtecpgdfnamkfdaaGreatDoor.Fn
end
section
namespace Go.Proofs.YtecpgdfnamkfdaaGreatDoor.Pure
open Go.RowKit Go.Proofs.YtecpgdfnamkfdaaGreatDoorW.PrintWords Go.Proofs.YtecpgdfnamkfdaaGreatDoorW.PrintLast Go.Proofs.YtecpgdfnamkfdaaGreatDoorW.PrintMore Go.Proofs.YtecpgdfnamkfdaaGreatDoor.Fn
set_option linter.unusedVariables false
set_option linter.unusedSimpArgs false
theorem ex_e : floatS true 4609434218613702656 false false false false false (-1) (-1) 101 = (S [49, 46, 53, 48, 48, 48, 48, 48, 101, 43, 48, 48], true) := by decide +kernel
theorem ex_v : floatS true 4591870180066957722 false false false false false (-1) (-1) 118 = (S [48, 46, 49], true) := by
  have h0 : codeV 118 = 3 := by decide
  have h1 : bareN true 4591870180066957722 = 4591870180066957722 := by decide
  have h2 : (4591870180066957722 : Nat) < ii true := by decide
  unfold floatS
  rw [h1, if_neg (by rw [h0]; decide), if_pos h2]
  have hr : ∀ m e, restL true 4591870180066957722 m e (clamp (-1)) 118 false = [48, 46, 49] := by
    intro m e
    unfold restL genOf shortL
    rw [h0, if_neg (by decide), if_neg (by decide), if_pos rfl, if_pos (by decide), if_neg (by decide), tenth_short]
    decide
  rw [hr]
  decide
theorem lives6 : Ev (fun k => platenlaw06_lives.f k) true := by
  have h1 := float_ev true (a := 4609434218613702656) (by decide) false false false false false (-1) (-1) 101
  rw [ex_e] at h1
  have h2 := float_ev true (a := 4591870180066957722) (by decide) false false false false false (-1) (-1) 118
  rw [ex_v] at h2
  have h3 := float_ev true (a := 0) (by decide) false false false false false (-1) (-1) 100
  rw [show floatS true 0 false false false false false (-1) (-1) 100 = (⟨#[]⟩, false) from rfl] at h3
  unfold platenlaw06_lives.f platenlaw06_bare.f
  simp only [Option.bind_some]
  refine Ev.bind (g := fun k => floats_Float.f k 4609434218613702656 64 false false false false false (-1) (-1) 101) h1 ?_
  refine Ev.bind (g := fun k => floats_Float.f k 4591870180066957722 64 false false false false false (-1) (-1) 118) h2 ?_
  refine Ev.bind (g := fun k => floats_Float.f k 0 64 false false false false false (-1) (-1) 100) h3 ?_
  refine Ev.congr (fun k => ?_) (Ev.now _)
  rw [if_pos rfl, if_pos rfl, if_neg (by simp), if_pos (by rw [toList_L, L_S]), toList_L, L_S]
  rfl
theorem livesEnd6 : Ev (fun k => (platenlaw06_lives.f k).bind fun t => some t) true := Ev.bind lives6 (Ev.now _)
theorem sized6 (wide : Bool) : platenlaw06_sized.f wide = some (szB wide) := by cases wide <;> rfl
def HeadD (l : List UInt8) : Prop := ∃ c t, l = c :: t ∧ 48 ≤ c.toNat ∧ c.toNat ≤ 57
theorem HeadD.app {a : List UInt8} (h : HeadD a) (b : List UInt8) : HeadD (a ++ b) := by
  obtain ⟨c, t, rfl, h1⟩ := h
  exact ⟨c, t ++ b, rfl, h1⟩
end Go.Proofs.YtecpgdfnamkfdaaGreatDoor.Pure
end
section
namespace Go.Proofs.YtecpgdfnamkfdaaGreatDoor.Fn
open Go.RowKit Go.Proofs.YtecpgdfnamkfdaaGreatDoorW.PrintWords Go.Proofs.YtecpgdfnamkfdaaGreatDoorW.PrintLast Go.Proofs.YtecpgdfnamkfdaaGreatDoorW.PrintMore
attribute [local go_sem] fnW_0 fnW_1 fnW_2 fnW_3 fnW_4 fnW_5 fnW_guard fnW_eql max2_int min2_int max_two min_two
set_option linter.unusedVariables false
set_option linter.unusedSimpArgs false
mutual
def platenlaw06_FloatsOdd.j0 : Nat → Int → ByteArray → ByteArray → Bool → Bool → Bool → Bool → Bool → Bool → Int → Int → Int → Option (Bool)
 | 0, _, _, _, _, _, _, _, _, _, _, _, _ => none
 | k + 1, x11, x12, x14, x49, x904000, x904001, x904002, x904003, x904004, x904005, x904006, x904007 => if x49 = true then ((buf_Fill.f 32 ((mx 0 (mn x904005 1000)) - 4)).bind fun t914 => (if x904001 = true then (if 4 + t914.size ≤ 9223372036854775807 then (if x12.toList = ((⟨#[45, 73, 110, 102]⟩ : ByteArray) ++ t914).toList then ((platenlaw06_lives.f k).bind fun t915 => (some t915)) else (some false)) else (none)) else (if t914.size + 4 ≤ 9223372036854775807 then (if x12.toList = (t914 ++ (⟨#[45, 73, 110, 102]⟩ : ByteArray)).toList then ((platenlaw06_lives.f k).bind fun t916 => (some t916)) else (some false)) else (none)))) else (if x11 = 1 then (if x904003 = true then (platenlaw06_FloatsOdd.j1 k x11 x12 x14 (!x904000) x904000 x904001 x904002 x904003 x904004 x904005 x904006 x904007) else (platenlaw06_FloatsOdd.j1 k x11 x12 x14 false x904000 x904001 x904002 x904003 x904004 x904005 x904006 x904007)) else (platenlaw06_FloatsOdd.j1 k x11 x12 x14 false x904000 x904001 x904002 x904003 x904004 x904005 x904006 x904007))
def platenlaw06_FloatsOdd.j1 : Nat → Int → ByteArray → ByteArray → Bool → Bool → Bool → Bool → Bool → Bool → Int → Int → Int → Option (Bool)
 | 0, _, _, _, _, _, _, _, _, _, _, _, _ => none
 | k + 1, x11, x12, x14, x55, x904000, x904001, x904002, x904003, x904004, x904005, x904006, x904007 => if x55 = true then ((buf_Fill.f 32 ((mx 0 (mn x904005 1000)) - 4)).bind fun t917 => (if x904001 = true then (if 4 + t917.size ≤ 9223372036854775807 then (if x12.toList = ((⟨#[32, 73, 110, 102]⟩ : ByteArray) ++ t917).toList then ((platenlaw06_lives.f k).bind fun t918 => (some t918)) else (some false)) else (none)) else (if t917.size + 4 ≤ 9223372036854775807 then (if x12.toList = (t917 ++ (⟨#[32, 73, 110, 102]⟩ : ByteArray)).toList then ((platenlaw06_lives.f k).bind fun t919 => (some t919)) else (some false)) else (none)))) else (if x11 = 1 then ((buf_Fill.f 32 ((mx 0 (mn x904005 1000)) - 4)).bind fun t920 => (if x904001 = true then (if 4 + t920.size ≤ 9223372036854775807 then (if x12.toList = ((⟨#[43, 73, 110, 102]⟩ : ByteArray) ++ t920).toList then ((platenlaw06_lives.f k).bind fun t921 => (some t921)) else (some false)) else (none)) else (if t920.size + 4 ≤ 9223372036854775807 then (if x12.toList = (t920 ++ (⟨#[43, 73, 110, 102]⟩ : ByteArray)).toList then ((platenlaw06_lives.f k).bind fun t922 => (some t922)) else (some false)) else (none)))) else (if x904000 = true then ((buf_Fill.f 32 ((mx 0 (mn x904005 1000)) - 4)).bind fun t923 => (if x904001 = true then (if 4 + t923.size ≤ 9223372036854775807 then (if x12.toList = ((⟨#[43, 78, 97, 78]⟩ : ByteArray) ++ t923).toList then ((platenlaw06_lives.f k).bind fun t924 => (some t924)) else (some false)) else (none)) else (if t923.size + 4 ≤ 9223372036854775807 then (if x12.toList = (t923 ++ (⟨#[43, 78, 97, 78]⟩ : ByteArray)).toList then ((platenlaw06_lives.f k).bind fun t925 => (some t925)) else (some false)) else (none)))) else (if x904003 = true then ((buf_Fill.f 32 ((mx 0 (mn x904005 1000)) - 4)).bind fun t926 => (if x904001 = true then (if 4 + t926.size ≤ 9223372036854775807 then (if x12.toList = ((⟨#[32, 78, 97, 78]⟩ : ByteArray) ++ t926).toList then ((platenlaw06_lives.f k).bind fun t927 => (some t927)) else (some false)) else (none)) else (if t926.size + 4 ≤ 9223372036854775807 then (if x12.toList = (t926 ++ (⟨#[32, 78, 97, 78]⟩ : ByteArray)).toList then ((platenlaw06_lives.f k).bind fun t928 => (some t928)) else (some false)) else (none)))) else ((buf_Fill.f 32 (wrap64 ((mx 0 (mn x904005 1000)) - (x14.size : Int)))).bind fun t929 => (if x904001 = true then (if x14.size + t929.size ≤ 9223372036854775807 then (if x12.toList = (x14 ++ t929).toList then ((platenlaw06_lives.f k).bind fun t930 => (some t930)) else (some false)) else (none)) else (if t929.size + x14.size ≤ 9223372036854775807 then (if x12.toList = (t929 ++ x14).toList then ((platenlaw06_lives.f k).bind fun t931 => (some t931)) else (some false)) else (none)))))))
end
def platenlaw06_FloatsOdd.f (k : Nat) (a0 : Int) (a1 : Bool) (a2_0 : Bool) (a2_1 : Bool) (a2_2 : Bool) (a2_3 : Bool) (a2_4 : Bool) (a2_5 : Int) (a2_6 : Int) (a2_7 : Int) : Option (Bool) := (platenlaw06_sized.f a1).bind fun t904 => ((short_Parts.f a0 t904).bind fun bt905 => (if bt905.2.2.2 = 0 then ((platenlaw06_lives.f k).bind fun t909 => (some t909)) else ((floats_Float.f k a0 t904 a2_0 a2_1 a2_2 a2_3 a2_4 a2_5 a2_6 a2_7).bind fun bt910 => (if bt910.2 = true then (if bt905.2.2.2 = 1 then (platenlaw06_FloatsOdd.j0 k bt905.2.2.2 bt910.1 (⟨#[78, 97, 78]⟩ : ByteArray) bt905.1 a2_0 a2_1 a2_2 a2_3 a2_4 a2_5 a2_6 a2_7) else (platenlaw06_FloatsOdd.j0 k bt905.2.2.2 bt910.1 (⟨#[78, 97, 78]⟩ : ByteArray) false a2_0 a2_1 a2_2 a2_3 a2_4 a2_5 a2_6 a2_7)) else (if bt910.1.toList = ([] : List UInt8) then ((platenref06_Verb.f a2_7).bind fun t912 => (if t912 = true then (some false) else ((platenlaw06_lives.f k).bind fun t913 => (some t913)))) else (some false))))))
set_option maxHeartbeats 8000000 in
set_option maxRecDepth 100000 in
theorem platenlaw06_FloatsOdd.calls (k : Nat) (a0 : Int) (a1 : Bool) (a2_0 : Bool) (a2_1 : Bool) (a2_2 : Bool) (a2_3 : Bool) (a2_4 : Bool) (a2_5 : Int) (a2_6 : Int) (a2_7 : Int) (r : Bool) (w : World) (h : platenlaw06_FloatsOdd.f k a0 a1 a2_0 a2_1 a2_2 a2_3 a2_4 a2_5 a2_6 a2_7 = some r) :
  Calls Tryz.prog 7 #[.int .u64 a0, .bool a1, .agg #[.bool a2_0, .bool a2_1, .bool a2_2, .bool a2_3, .bool a2_4, .int .i64 a2_5, .int .i64 a2_6, .int .i32 a2_7]] w fun e w' => e = .returned (.bool r) ∧ Below w.heap.size w w' := by
 have hu26 := Tryz.underlying26
 have HB := Aside0.mk (Below.refl w.heap.size w)
 have H : ((platenlaw06_sized.f a1).bind fun t904 => ((short_Parts.f a0 t904).bind fun bt905 => (if bt905.2.2.2 = 0 then ((platenlaw06_lives.f k).bind fun t909 => (some t909)) else ((floats_Float.f k a0 t904 a2_0 a2_1 a2_2 a2_3 a2_4 a2_5 a2_6 a2_7).bind fun bt910 => (if bt910.2 = true then (if bt905.2.2.2 = 1 then (platenlaw06_FloatsOdd.j0 k bt905.2.2.2 bt910.1 (⟨#[78, 97, 78]⟩ : ByteArray) bt905.1 a2_0 a2_1 a2_2 a2_3 a2_4 a2_5 a2_6 a2_7) else (platenlaw06_FloatsOdd.j0 k bt905.2.2.2 bt910.1 (⟨#[78, 97, 78]⟩ : ByteArray) false a2_0 a2_1 a2_2 a2_3 a2_4 a2_5 a2_6 a2_7)) else (if bt910.1.toList = ([] : List UInt8) then ((platenref06_Verb.f a2_7).bind fun t912 => (if t912 = true then (some false) else ((platenlaw06_lives.f k).bind fun t913 => (some t913)))) else (some false))))))) = some r := h
 clear h
 replace H := bs H
 obtain ⟨t904, A4, H⟩ := H
 replace H := bs H
 obtain ⟨⟨t905, t906, t907, t908⟩, A5, H⟩ := H
 dsimp only at H
 go_enter Tryz.func7, Tryz.ntmps7
 go_upto_if 27 with (first | ((with_reducible refine gate_dst (N := 5) rfl ?_); refine box_event rfl (N := 5) rfl (cs := #[.bool a2_0, .bool a2_1, .bool a2_2, .bool a2_3, .bool a2_4, .int .i64 a2_5, .int .i64 a2_6, .int .i32 a2_7]) (t := 26) gz ?_; intro gb903 hg w6 hbox hb; have GE903 := gN bz hg; have BK903 := Aside0.mk hbox; replace HB := bN bz hb; clear hb hbox hg) | ((with_reducible refine gate_callee (f := 21) rfl ?_); refine goesL_ (some 17) rfl rfl Tryz.func21 (by kernel_rfl) rfl #[.bool a1] rfl lz ?_; (with_reducible refine (platenlaw06_sized.calls a1 t904 _ A4.out).mono ?_); rintro e w' ⟨rfl, ⟨nd, rfl⟩⟩; refine ⟨_, rfl, ?_⟩) | ((with_reducible refine gate_callee (f := 24) rfl ?_); refine goesL_ (some 21) rfl rfl Tryz.func24 (by kernel_rfl) rfl #[.int .u64 a0, .int .i64 t904] rfl lz ?_; (with_reducible refine (short_Parts.calls a0 t904 t905 t906 t907 t908 _ A5.out).mono ?_); rintro e w7 ⟨rfl, hb⟩; refine ⟨_, rfl, ?_⟩; replace BK903 := kN (g := gb903) (cs := #[.bool a2_0, .bool a2_1, .bool a2_2, .bool a2_3, .bool a2_4, .int .i64 a2_5, .int .i64 a2_6, .int .i32 a2_7]) hb bk; replace HB := bN bz hb; (try clear hb); (try clear hb2); (try clear hk); (try clear hi)))
 (try simp only [Act.put, List.setIfInBounds_toArray, List.set_cons_zero, List.set_cons_succ])
 by_cases c8 : t908 = 0
 ·replace H := hE H c8
  obtain ⟨c8b0, c8b1⟩ := eT c8
  clear c8
  try first | rw [c8b0] | rw [c8b1]
  replace H := bs H
  obtain ⟨t909, A9, H⟩ := H
  obtain rfl := Option.some.inj H
  go_wp2_with (first | ((with_reducible refine gate_callee (f := 23) rfl ?_); refine goesL_ (some 28) rfl rfl Tryz.func23 (by kernel_rfl) rfl #[] rfl lz ?_; (with_reducible refine (platenlaw06_lives.calls k  t909 _ A9.out).mono ?_); rintro e w10 ⟨rfl, hb⟩; refine ⟨_, rfl, ?_⟩; replace BK903 := kN (g := gb903) (cs := #[.bool a2_0, .bool a2_1, .bool a2_2, .bool a2_3, .bool a2_4, .int .i64 a2_5, .int .i64 a2_6, .int .i32 a2_7]) hb bk; replace HB := bN bz hb; (try clear hb); (try clear hb2); (try clear hk); (try clear hi)))
  go_ret
  exact ⟨ez, bz⟩
 ·replace H := hN H c8
  obtain ⟨c8b0, c8b1⟩ := eF c8
  try first | rw [c8b0] | rw [c8b1]
  replace H := bs H
  obtain ⟨⟨t910, t911⟩, A11, H⟩ := H
  dsimp only at H
  obtain ⟨hcz12_0, hcz12_1, hcz12_2, hcz12_3, hcz12_4, hcz12_5, hcz12_6, hcz12_7, hfz12_0, hfz12_1, hfz12_2, hfz12_3, hfz12_4, hfz12_5, hfz12_6, hfz12_7⟩ := cz8 (W := w7) BK903
  go_upto_if 37 with (first | ((with_reducible refine gate_callee (f := 25) rfl ?_); refine goesL_ (some 33) rfl rfl Tryz.func25 (by kernel_rfl) rfl #[.int .u64 a0, .int .i64 t904, .agg #[.bool a2_0, .bool a2_1, .bool a2_2, .bool a2_3, .bool a2_4, .int .i64 a2_5, .int .i64 a2_6, .int .i32 a2_7]] rfl lz ?_; (with_reducible refine (floats_Float.calls k a0 t904 a2_0 a2_1 a2_2 a2_3 a2_4 a2_5 a2_6 a2_7 t910 t911 _ A11.out).mono ?_); rintro e w13 ⟨rfl, hb⟩; refine ⟨_, rfl, ?_⟩; replace BK903 := kN (g := gb903) (cs := #[.bool a2_0, .bool a2_1, .bool a2_2, .bool a2_3, .bool a2_4, .int .i64 a2_5, .int .i64 a2_6, .int .i32 a2_7]) hb bk; replace HB := bN bz hb; (try clear hb); (try clear hb2); (try clear hk); (try clear hi)))
  (try simp only [Act.put, List.setIfInBounds_toArray, List.set_cons_zero, List.set_cons_succ])
  by_cases c14 : t911 = true
  ·subst c14
   replace H := hT H
   have HC15 := Aside0.mk H
   clear H
   go_upto_region 9 with (fail)
   go_cut [49] (fun v49 wc => ∃ (kq : Nat) (x49_14 : Bool), v49 = .bool x49_14 ∧ Aside0 (platenlaw06_FloatsOdd.j0 kq t908 t910 (⟨#[78, 97, 78]⟩ : ByteArray) x49_14 a2_0 a2_1 a2_2 a2_3 a2_4 a2_5 a2_6 a2_7 = some r) ∧ Aside0 (kq ≤ k) ∧ Aside0 (wc.heap[gb903]? = some (.cells #[.bool a2_0, .bool a2_1, .bool a2_2, .bool a2_3, .bool a2_4, .int .i64 a2_5, .int .i64 a2_6, .int .i32 a2_7] 26 (0, 0))) ∧ Aside0 (Below w.heap.size w wc))
   case first =>
    have H := HC15.out
    clear HC15
    by_cases c16 : t908 = 1
    ·replace H := hE H c16
     obtain ⟨c16b0, c16b1⟩ := eT c16
     clear c16
     try first | rw [c16b0] | rw [c16b1]
     have H' := Aside0.mk H
     clear H
     go_wp2
     go_meet
     case rel => exact ⟨_, (t905), rz, H', ⟨by first | omega | exact Nat.le_refl _⟩, ⟨bk⟩, ⟨bz⟩⟩
    ·replace H := hN H c16
     obtain ⟨c16b0, c16b1⟩ := eF c16
     try first | rw [c16b0] | rw [c16b1]
     have H' := Aside0.mk H
     clear H
     go_wp2
     go_meet
     case rel => exact ⟨_, (false), rz, H', ⟨by first | omega | exact Nat.le_refl _⟩, ⟨bk⟩, ⟨bz⟩⟩
   case rest =>
    clear HC15
    try clear c8
    try clear c8b0
    try clear c8b1
    try clear c14
    try clear c16
    try clear c16b0
    try clear c16b1
    try clear hcz12_0 hcz12_1 hcz12_2 hcz12_3 hcz12_4 hcz12_5 hcz12_6 hcz12_7 hfz12_0 hfz12_1 hfz12_2 hfz12_3 hfz12_4 hfz12_5 hfz12_6 hfz12_7
    obtain ⟨kq, x49_14, rfl, HA, HJ14, BK903, HB⟩ := hcut
    cases kq with
    | zero => exact absurd HA.out (by simp [platenlaw06_FloatsOdd.j0])
    | succ kj14 =>
     have H := HA.out
     clear HA
     simp only [platenlaw06_FloatsOdd.j0] at H
     by_cases c17 : x49_14 = true
     ·subst c17
      replace H := hT H
      obtain ⟨ji18, hji18⟩ : ∃ j_ : Int, (mn a2_5 1000) = j_ := ⟨_, rfl⟩
      (first | rw [hji18] at H | simp only [hji18] at H)
      have hji18_ : (if 1000 < a2_5 then 1000 else a2_5) = ji18 := hji18
      obtain ⟨ji19, hji19⟩ : ∃ j_ : Int, (mx 0 (ji18)) = j_ := ⟨_, rfl⟩
      (first | rw [hji19] at H | simp only [hji19] at H)
      have hji19_ : (if 0 < (ji18) then (ji18) else 0) = ji19 := hji19
      replace H := bs H
      obtain ⟨t914, A20, H⟩ := H
      by_cases c21 : a2_1 = true
      ·subst c21
       replace H := hT H
       by_cases c22 : 4 + t914.size ≤ 9223372036854775807
       ·replace H := hE H c22
        have c22b0 := eq_true c22
        have c22b1 : decide (4 + t914.size ≤ 9223372036854775807) = true := decide_eq_true c22
        try have c22b2 : (9223372036854775807 < 4 + t914.size) = False := eq_false (Nat.not_lt.2 c22)
        by_cases c23 : t910.toList = ((⟨#[45, 73, 110, 102]⟩ : ByteArray) ++ t914).toList
        ·replace H := hE H c23
         have c23b0 : (t910.toList == ((⟨#[45, 73, 110, 102]⟩ : ByteArray) ++ t914).toList) = true := beq_iff_eq.mpr c23
         have c23b1 : (t910.toList != ((⟨#[45, 73, 110, 102]⟩ : ByteArray) ++ t914).toList) = false := bne_eq_false_iff_eq.mpr c23
         clear c23
         replace H := bs H
         obtain ⟨t915, A24, H⟩ := H
         obtain rfl := Option.some.inj H
         obtain ⟨hcz25_0, hcz25_1, hcz25_2, hcz25_3, hcz25_4, hcz25_5, hcz25_6, hcz25_7, hfz25_0, hfz25_1, hfz25_2, hfz25_3, hfz25_4, hfz25_5, hfz25_6, hfz25_7⟩ := cz8 (W := wc) BK903
         go_wp2_with (first | ((with_reducible refine gate_callee (f := 27) rfl ?_); refine goesL_ (some 83) rfl rfl Tryz.func27 (by kernel_rfl) rfl #[.int .u8 32, .int .i64 ((ji19) - 4)] rfl (by (try simp only [List.map_toArray, List.map_cons, List.map_nil]); first | done | (simp only [hji19]; rfl) | rfl | (simp only [List.length_drop, List.length_take]; rfl)) ?_; (with_reducible refine (buf_Fill.calls 32 ((ji19) - 4) t914 _ A20.out).mono ?_); rintro e w26 ⟨rfl, hb⟩; refine ⟨_, rfl, ?_⟩; replace BK903 := kN (g := gb903) (cs := #[.bool a2_0, .bool true, .bool a2_2, .bool a2_3, .bool a2_4, .int .i64 a2_5, .int .i64 a2_6, .int .i32 a2_7]) hb bk; replace HB := bN bz hb; (try clear hb); (try clear hb2); (try clear hk); (try clear hi); obtain ⟨hcz27_0, hcz27_1, hcz27_2, hcz27_3, hcz27_4, hcz27_5, hcz27_6, hcz27_7, hfz27_0, hfz27_1, hfz27_2, hfz27_3, hfz27_4, hfz27_5, hfz27_6, hfz27_7⟩ := cz8 (W := w26) BK903) | (go_at_call 23; (with_reducible refine (platenlaw06_lives.calls kj14  t915 _ A24.out).mono ?_); rintro e w28 ⟨rfl, hb⟩; replace BK903 := kN (g := gb903) (cs := #[.bool a2_0, .bool true, .bool a2_2, .bool a2_3, .bool a2_4, .int .i64 a2_5, .int .i64 a2_6, .int .i32 a2_7]) hb bk; replace HB := bN bz hb; (try clear hb); (try clear hb2); (try clear hk); (try clear hi)))
         go_ret
         exact ⟨by first | rfl | (simp [errW_none, errW_some] <;> rfl) | (simp only [← hji18, ← hji19]; first | rfl | (simp [errW_none, errW_some] <;> rfl)) | (simp [*, errW_none, errW_some] <;> rfl), bz⟩
        ·replace H := hN H c23
         have c23b0 : (t910.toList == ((⟨#[45, 73, 110, 102]⟩ : ByteArray) ++ t914).toList) = false := beq_eq_false_iff_ne.mpr c23
         have c23b1 : (t910.toList != ((⟨#[45, 73, 110, 102]⟩ : ByteArray) ++ t914).toList) = true := bne_iff_ne.mpr c23
         obtain rfl := Option.some.inj H
         obtain ⟨hcz29_0, hcz29_1, hcz29_2, hcz29_3, hcz29_4, hcz29_5, hcz29_6, hcz29_7, hfz29_0, hfz29_1, hfz29_2, hfz29_3, hfz29_4, hfz29_5, hfz29_6, hfz29_7⟩ := cz8 (W := wc) BK903
         go_wp2_with (first | ((with_reducible refine gate_callee (f := 27) rfl ?_); refine goesL_ (some 83) rfl rfl Tryz.func27 (by kernel_rfl) rfl #[.int .u8 32, .int .i64 ((ji19) - 4)] rfl (by (try simp only [List.map_toArray, List.map_cons, List.map_nil]); first | done | (simp only [hji19]; rfl) | rfl | (simp only [List.length_drop, List.length_take]; rfl)) ?_; (with_reducible refine (buf_Fill.calls 32 ((ji19) - 4) t914 _ A20.out).mono ?_); rintro e w30 ⟨rfl, hb⟩; refine ⟨_, rfl, ?_⟩; replace BK903 := kN (g := gb903) (cs := #[.bool a2_0, .bool true, .bool a2_2, .bool a2_3, .bool a2_4, .int .i64 a2_5, .int .i64 a2_6, .int .i32 a2_7]) hb bk; replace HB := bN bz hb; (try clear hb); (try clear hb2); (try clear hk); (try clear hi); obtain ⟨hcz31_0, hcz31_1, hcz31_2, hcz31_3, hcz31_4, hcz31_5, hcz31_6, hcz31_7, hfz31_0, hfz31_1, hfz31_2, hfz31_3, hfz31_4, hfz31_5, hfz31_6, hfz31_7⟩ := cz8 (W := w30) BK903))
         go_ret
         exact ⟨by first | rfl | (simp [errW_none, errW_some] <;> rfl) | (simp only [← hji18, ← hji19]; first | rfl | (simp [errW_none, errW_some] <;> rfl)) | (simp [*, errW_none, errW_some] <;> rfl), bz⟩
       ·replace H := hN H c22
        exact absurd H (by simp)
      ·replace c21 := Bool.eq_false_iff.mpr c21
       subst c21
       replace H := hF H
       by_cases c32 : t914.size + 4 ≤ 9223372036854775807
       ·replace H := hE H c32
        have c32b0 := eq_true c32
        have c32b1 : decide (t914.size + 4 ≤ 9223372036854775807) = true := decide_eq_true c32
        try have c32b2 : (9223372036854775807 < t914.size + 4) = False := eq_false (Nat.not_lt.2 c32)
        by_cases c33 : t910.toList = (t914 ++ (⟨#[45, 73, 110, 102]⟩ : ByteArray)).toList
        ·replace H := hE H c33
         have c33b0 : (t910.toList == (t914 ++ (⟨#[45, 73, 110, 102]⟩ : ByteArray)).toList) = true := beq_iff_eq.mpr c33
         have c33b1 : (t910.toList != (t914 ++ (⟨#[45, 73, 110, 102]⟩ : ByteArray)).toList) = false := bne_eq_false_iff_eq.mpr c33
         clear c33
         replace H := bs H
         obtain ⟨t916, A34, H⟩ := H
         obtain rfl := Option.some.inj H
         obtain ⟨hcz35_0, hcz35_1, hcz35_2, hcz35_3, hcz35_4, hcz35_5, hcz35_6, hcz35_7, hfz35_0, hfz35_1, hfz35_2, hfz35_3, hfz35_4, hfz35_5, hfz35_6, hfz35_7⟩ := cz8 (W := wc) BK903
         go_wp2_with (first | ((with_reducible refine gate_callee (f := 27) rfl ?_); refine goesL_ (some 83) rfl rfl Tryz.func27 (by kernel_rfl) rfl #[.int .u8 32, .int .i64 ((ji19) - 4)] rfl (by (try simp only [List.map_toArray, List.map_cons, List.map_nil]); first | done | (simp only [hji19]; rfl) | rfl | (simp only [List.length_drop, List.length_take]; rfl)) ?_; (with_reducible refine (buf_Fill.calls 32 ((ji19) - 4) t914 _ A20.out).mono ?_); rintro e w36 ⟨rfl, hb⟩; refine ⟨_, rfl, ?_⟩; replace BK903 := kN (g := gb903) (cs := #[.bool a2_0, .bool false, .bool a2_2, .bool a2_3, .bool a2_4, .int .i64 a2_5, .int .i64 a2_6, .int .i32 a2_7]) hb bk; replace HB := bN bz hb; (try clear hb); (try clear hb2); (try clear hk); (try clear hi); obtain ⟨hcz37_0, hcz37_1, hcz37_2, hcz37_3, hcz37_4, hcz37_5, hcz37_6, hcz37_7, hfz37_0, hfz37_1, hfz37_2, hfz37_3, hfz37_4, hfz37_5, hfz37_6, hfz37_7⟩ := cz8 (W := w36) BK903) | (go_at_call 23; (with_reducible refine (platenlaw06_lives.calls kj14  t916 _ A34.out).mono ?_); rintro e w38 ⟨rfl, hb⟩; replace BK903 := kN (g := gb903) (cs := #[.bool a2_0, .bool false, .bool a2_2, .bool a2_3, .bool a2_4, .int .i64 a2_5, .int .i64 a2_6, .int .i32 a2_7]) hb bk; replace HB := bN bz hb; (try clear hb); (try clear hb2); (try clear hk); (try clear hi)))
         go_ret
         exact ⟨by first | rfl | (simp [errW_none, errW_some] <;> rfl) | (simp only [← hji18, ← hji19]; first | rfl | (simp [errW_none, errW_some] <;> rfl)) | (simp [*, errW_none, errW_some] <;> rfl), bz⟩
        ·replace H := hN H c33
         have c33b0 : (t910.toList == (t914 ++ (⟨#[45, 73, 110, 102]⟩ : ByteArray)).toList) = false := beq_eq_false_iff_ne.mpr c33
         have c33b1 : (t910.toList != (t914 ++ (⟨#[45, 73, 110, 102]⟩ : ByteArray)).toList) = true := bne_iff_ne.mpr c33
         obtain rfl := Option.some.inj H
         obtain ⟨hcz39_0, hcz39_1, hcz39_2, hcz39_3, hcz39_4, hcz39_5, hcz39_6, hcz39_7, hfz39_0, hfz39_1, hfz39_2, hfz39_3, hfz39_4, hfz39_5, hfz39_6, hfz39_7⟩ := cz8 (W := wc) BK903
         go_wp2_with (first | ((with_reducible refine gate_callee (f := 27) rfl ?_); refine goesL_ (some 83) rfl rfl Tryz.func27 (by kernel_rfl) rfl #[.int .u8 32, .int .i64 ((ji19) - 4)] rfl (by (try simp only [List.map_toArray, List.map_cons, List.map_nil]); first | done | (simp only [hji19]; rfl) | rfl | (simp only [List.length_drop, List.length_take]; rfl)) ?_; (with_reducible refine (buf_Fill.calls 32 ((ji19) - 4) t914 _ A20.out).mono ?_); rintro e w40 ⟨rfl, hb⟩; refine ⟨_, rfl, ?_⟩; replace BK903 := kN (g := gb903) (cs := #[.bool a2_0, .bool false, .bool a2_2, .bool a2_3, .bool a2_4, .int .i64 a2_5, .int .i64 a2_6, .int .i32 a2_7]) hb bk; replace HB := bN bz hb; (try clear hb); (try clear hb2); (try clear hk); (try clear hi); obtain ⟨hcz41_0, hcz41_1, hcz41_2, hcz41_3, hcz41_4, hcz41_5, hcz41_6, hcz41_7, hfz41_0, hfz41_1, hfz41_2, hfz41_3, hfz41_4, hfz41_5, hfz41_6, hfz41_7⟩ := cz8 (W := w40) BK903))
         go_ret
         exact ⟨by first | rfl | (simp [errW_none, errW_some] <;> rfl) | (simp only [← hji18, ← hji19]; first | rfl | (simp [errW_none, errW_some] <;> rfl)) | (simp [*, errW_none, errW_some] <;> rfl), bz⟩
       ·replace H := hN H c32
        exact absurd H (by simp)
     ·replace c17 := Bool.eq_false_iff.mpr c17
      subst c17
      replace H := hF H
      have HC42 := Aside0.mk H
      clear H
      go_upto_region 11 with (fail)
      go_cut [55] (fun v55 wc => ∃ (kq : Nat) (x55_41 : Bool), v55 = .bool x55_41 ∧ Aside0 (platenlaw06_FloatsOdd.j1 kq t908 t910 (⟨#[78, 97, 78]⟩ : ByteArray) x55_41 a2_0 a2_1 a2_2 a2_3 a2_4 a2_5 a2_6 a2_7 = some r) ∧ Aside0 (kq ≤ kj14) ∧ Aside0 (wc.heap[gb903]? = some (.cells #[.bool a2_0, .bool a2_1, .bool a2_2, .bool a2_3, .bool a2_4, .int .i64 a2_5, .int .i64 a2_6, .int .i32 a2_7] 26 (0, 0))) ∧ Aside0 (Below w.heap.size w wc))
      case first =>
       have H := HC42.out
       clear HC42
       by_cases c43 : t908 = 1
       ·replace H := hE H c43
        obtain ⟨c43b0, c43b1⟩ := eT c43
        clear c43
        try first | rw [c43b0] | rw [c43b1]
        by_cases c44 : a2_3 = true
        ·subst c44
         replace H := hT H
         have H' := Aside0.mk H
         clear H
         obtain ⟨hcz45_0, hcz45_1, hcz45_2, hcz45_3, hcz45_4, hcz45_5, hcz45_6, hcz45_7, hfz45_0, hfz45_1, hfz45_2, hfz45_3, hfz45_4, hfz45_5, hfz45_6, hfz45_7⟩ := cz8 (W := wc) BK903
         go_wp2
         go_meet
         case rel => exact ⟨_, (!a2_0), rz, H', ⟨by have := HJ14.out; first | omega | exact Nat.le_refl _⟩, ⟨bk⟩, ⟨bz⟩⟩
        ·replace c44 := Bool.eq_false_iff.mpr c44
         subst c44
         replace H := hF H
         have H' := Aside0.mk H
         clear H
         obtain ⟨hcz46_0, hcz46_1, hcz46_2, hcz46_3, hcz46_4, hcz46_5, hcz46_6, hcz46_7, hfz46_0, hfz46_1, hfz46_2, hfz46_3, hfz46_4, hfz46_5, hfz46_6, hfz46_7⟩ := cz8 (W := wc) BK903
         go_wp2
         go_meet
         case rel => exact ⟨_, (false), rz, H', ⟨by have := HJ14.out; first | omega | exact Nat.le_refl _⟩, ⟨bk⟩, ⟨bz⟩⟩
       ·replace H := hN H c43
        obtain ⟨c43b0, c43b1⟩ := eF c43
        try first | rw [c43b0] | rw [c43b1]
        have H' := Aside0.mk H
        clear H
        go_wp2
        go_meet
        case rel => exact ⟨_, (false), rz, H', ⟨by have := HJ14.out; first | omega | exact Nat.le_refl _⟩, ⟨bk⟩, ⟨bz⟩⟩
      case rest =>
       clear HC42
       try clear c8
       try clear c8b0
       try clear c8b1
       try clear c14
       try clear c16
       try clear c16b0
       try clear c16b1
       try clear c17
       try clear c21
       try clear c22
       try clear c22b0
       try clear c22b1
       try clear c22b2
       try clear c23
       try clear c23b0
       try clear c23b1
       try clear c32
       try clear c32b0
       try clear c32b1
       try clear c32b2
       try clear c33
       try clear c33b0
       try clear c33b1
       try clear c43
       try clear c43b0
       try clear c43b1
       try clear c44
       try clear hcz12_0 hcz12_1 hcz12_2 hcz12_3 hcz12_4 hcz12_5 hcz12_6 hcz12_7 hfz12_0 hfz12_1 hfz12_2 hfz12_3 hfz12_4 hfz12_5 hfz12_6 hfz12_7
       try clear hcz25_0 hcz25_1 hcz25_2 hcz25_3 hcz25_4 hcz25_5 hcz25_6 hcz25_7 hfz25_0 hfz25_1 hfz25_2 hfz25_3 hfz25_4 hfz25_5 hfz25_6 hfz25_7
       try clear hcz27_0 hcz27_1 hcz27_2 hcz27_3 hcz27_4 hcz27_5 hcz27_6 hcz27_7 hfz27_0 hfz27_1 hfz27_2 hfz27_3 hfz27_4 hfz27_5 hfz27_6 hfz27_7
       try clear hcz29_0 hcz29_1 hcz29_2 hcz29_3 hcz29_4 hcz29_5 hcz29_6 hcz29_7 hfz29_0 hfz29_1 hfz29_2 hfz29_3 hfz29_4 hfz29_5 hfz29_6 hfz29_7
       try clear hcz31_0 hcz31_1 hcz31_2 hcz31_3 hcz31_4 hcz31_5 hcz31_6 hcz31_7 hfz31_0 hfz31_1 hfz31_2 hfz31_3 hfz31_4 hfz31_5 hfz31_6 hfz31_7
       try clear hcz35_0 hcz35_1 hcz35_2 hcz35_3 hcz35_4 hcz35_5 hcz35_6 hcz35_7 hfz35_0 hfz35_1 hfz35_2 hfz35_3 hfz35_4 hfz35_5 hfz35_6 hfz35_7
       try clear hcz37_0 hcz37_1 hcz37_2 hcz37_3 hcz37_4 hcz37_5 hcz37_6 hcz37_7 hfz37_0 hfz37_1 hfz37_2 hfz37_3 hfz37_4 hfz37_5 hfz37_6 hfz37_7
       try clear hcz39_0 hcz39_1 hcz39_2 hcz39_3 hcz39_4 hcz39_5 hcz39_6 hcz39_7 hfz39_0 hfz39_1 hfz39_2 hfz39_3 hfz39_4 hfz39_5 hfz39_6 hfz39_7
       try clear hcz41_0 hcz41_1 hcz41_2 hcz41_3 hcz41_4 hcz41_5 hcz41_6 hcz41_7 hfz41_0 hfz41_1 hfz41_2 hfz41_3 hfz41_4 hfz41_5 hfz41_6 hfz41_7
       try clear hcz45_0 hcz45_1 hcz45_2 hcz45_3 hcz45_4 hcz45_5 hcz45_6 hcz45_7 hfz45_0 hfz45_1 hfz45_2 hfz45_3 hfz45_4 hfz45_5 hfz45_6 hfz45_7
       try clear hcz46_0 hcz46_1 hcz46_2 hcz46_3 hcz46_4 hcz46_5 hcz46_6 hcz46_7 hfz46_0 hfz46_1 hfz46_2 hfz46_3 hfz46_4 hfz46_5 hfz46_6 hfz46_7
       obtain ⟨kq, x55_41, rfl, HA, HJ41, BK903, HB⟩ := hcut
       cases kq with
       | zero => exact absurd HA.out (by simp [platenlaw06_FloatsOdd.j1])
       | succ kj41 =>
        have H := HA.out
        clear HA
        simp only [platenlaw06_FloatsOdd.j1] at H
        by_cases c47 : x55_41 = true
        ·subst c47
         replace H := hT H
         obtain ⟨ji48, hji48⟩ : ∃ j_ : Int, (mn a2_5 1000) = j_ := ⟨_, rfl⟩
         (first | rw [hji48] at H | simp only [hji48] at H)
         have hji48_ : (if 1000 < a2_5 then 1000 else a2_5) = ji48 := hji48
         obtain ⟨ji49, hji49⟩ : ∃ j_ : Int, (mx 0 (ji48)) = j_ := ⟨_, rfl⟩
         (first | rw [hji49] at H | simp only [hji49] at H)
         have hji49_ : (if 0 < (ji48) then (ji48) else 0) = ji49 := hji49
         replace H := bs H
         obtain ⟨t917, A50, H⟩ := H
         by_cases c51 : a2_1 = true
         ·subst c51
          replace H := hT H
          by_cases c52 : 4 + t917.size ≤ 9223372036854775807
          ·replace H := hE H c52
           have c52b0 := eq_true c52
           have c52b1 : decide (4 + t917.size ≤ 9223372036854775807) = true := decide_eq_true c52
           try have c52b2 : (9223372036854775807 < 4 + t917.size) = False := eq_false (Nat.not_lt.2 c52)
           by_cases c53 : t910.toList = ((⟨#[32, 73, 110, 102]⟩ : ByteArray) ++ t917).toList
           ·replace H := hE H c53
            have c53b0 : (t910.toList == ((⟨#[32, 73, 110, 102]⟩ : ByteArray) ++ t917).toList) = true := beq_iff_eq.mpr c53
            have c53b1 : (t910.toList != ((⟨#[32, 73, 110, 102]⟩ : ByteArray) ++ t917).toList) = false := bne_eq_false_iff_eq.mpr c53
            clear c53
            replace H := bs H
            obtain ⟨t918, A54, H⟩ := H
            obtain rfl := Option.some.inj H
            obtain ⟨hcz55_0, hcz55_1, hcz55_2, hcz55_3, hcz55_4, hcz55_5, hcz55_6, hcz55_7, hfz55_0, hfz55_1, hfz55_2, hfz55_3, hfz55_4, hfz55_5, hfz55_6, hfz55_7⟩ := cz8 (W := wc) BK903
            go_wp2_with (first | ((with_reducible refine gate_callee (f := 27) rfl ?_); refine goesL_ (some 83) rfl rfl Tryz.func27 (by kernel_rfl) rfl #[.int .u8 32, .int .i64 ((ji49) - 4)] rfl (by (try simp only [List.map_toArray, List.map_cons, List.map_nil]); first | done | (simp only [hji49]; rfl) | rfl | (simp only [List.length_drop, List.length_take]; rfl)) ?_; (with_reducible refine (buf_Fill.calls 32 ((ji49) - 4) t917 _ A50.out).mono ?_); rintro e w56 ⟨rfl, hb⟩; refine ⟨_, rfl, ?_⟩; replace BK903 := kN (g := gb903) (cs := #[.bool a2_0, .bool true, .bool a2_2, .bool a2_3, .bool a2_4, .int .i64 a2_5, .int .i64 a2_6, .int .i32 a2_7]) hb bk; replace HB := bN bz hb; (try clear hb); (try clear hb2); (try clear hk); (try clear hi); obtain ⟨hcz57_0, hcz57_1, hcz57_2, hcz57_3, hcz57_4, hcz57_5, hcz57_6, hcz57_7, hfz57_0, hfz57_1, hfz57_2, hfz57_3, hfz57_4, hfz57_5, hfz57_6, hfz57_7⟩ := cz8 (W := w56) BK903) | (go_at_call 23; (with_reducible refine (platenlaw06_lives.calls kj41  t918 _ A54.out).mono ?_); rintro e w58 ⟨rfl, hb⟩; replace BK903 := kN (g := gb903) (cs := #[.bool a2_0, .bool true, .bool a2_2, .bool a2_3, .bool a2_4, .int .i64 a2_5, .int .i64 a2_6, .int .i32 a2_7]) hb bk; replace HB := bN bz hb; (try clear hb); (try clear hb2); (try clear hk); (try clear hi)))
            go_ret
            exact ⟨by first | rfl | (simp [errW_none, errW_some] <;> rfl) | (simp only [← hji48, ← hji49]; first | rfl | (simp [errW_none, errW_some] <;> rfl)) | (simp [*, errW_none, errW_some] <;> rfl), bz⟩
           ·replace H := hN H c53
            have c53b0 : (t910.toList == ((⟨#[32, 73, 110, 102]⟩ : ByteArray) ++ t917).toList) = false := beq_eq_false_iff_ne.mpr c53
            have c53b1 : (t910.toList != ((⟨#[32, 73, 110, 102]⟩ : ByteArray) ++ t917).toList) = true := bne_iff_ne.mpr c53
            obtain rfl := Option.some.inj H
            obtain ⟨hcz59_0, hcz59_1, hcz59_2, hcz59_3, hcz59_4, hcz59_5, hcz59_6, hcz59_7, hfz59_0, hfz59_1, hfz59_2, hfz59_3, hfz59_4, hfz59_5, hfz59_6, hfz59_7⟩ := cz8 (W := wc) BK903
            go_wp2_with (first | ((with_reducible refine gate_callee (f := 27) rfl ?_); refine goesL_ (some 83) rfl rfl Tryz.func27 (by kernel_rfl) rfl #[.int .u8 32, .int .i64 ((ji49) - 4)] rfl (by (try simp only [List.map_toArray, List.map_cons, List.map_nil]); first | done | (simp only [hji49]; rfl) | rfl | (simp only [List.length_drop, List.length_take]; rfl)) ?_; (with_reducible refine (buf_Fill.calls 32 ((ji49) - 4) t917 _ A50.out).mono ?_); rintro e w60 ⟨rfl, hb⟩; refine ⟨_, rfl, ?_⟩; replace BK903 := kN (g := gb903) (cs := #[.bool a2_0, .bool true, .bool a2_2, .bool a2_3, .bool a2_4, .int .i64 a2_5, .int .i64 a2_6, .int .i32 a2_7]) hb bk; replace HB := bN bz hb; (try clear hb); (try clear hb2); (try clear hk); (try clear hi); obtain ⟨hcz61_0, hcz61_1, hcz61_2, hcz61_3, hcz61_4, hcz61_5, hcz61_6, hcz61_7, hfz61_0, hfz61_1, hfz61_2, hfz61_3, hfz61_4, hfz61_5, hfz61_6, hfz61_7⟩ := cz8 (W := w60) BK903))
            go_ret
            exact ⟨by first | rfl | (simp [errW_none, errW_some] <;> rfl) | (simp only [← hji48, ← hji49]; first | rfl | (simp [errW_none, errW_some] <;> rfl)) | (simp [*, errW_none, errW_some] <;> rfl), bz⟩
          ·replace H := hN H c52
           exact absurd H (by simp)
         ·replace c51 := Bool.eq_false_iff.mpr c51
          subst c51
          replace H := hF H
          by_cases c62 : t917.size + 4 ≤ 9223372036854775807
          ·replace H := hE H c62
           have c62b0 := eq_true c62
           have c62b1 : decide (t917.size + 4 ≤ 9223372036854775807) = true := decide_eq_true c62
           try have c62b2 : (9223372036854775807 < t917.size + 4) = False := eq_false (Nat.not_lt.2 c62)
           by_cases c63 : t910.toList = (t917 ++ (⟨#[32, 73, 110, 102]⟩ : ByteArray)).toList
           ·replace H := hE H c63
            have c63b0 : (t910.toList == (t917 ++ (⟨#[32, 73, 110, 102]⟩ : ByteArray)).toList) = true := beq_iff_eq.mpr c63
            have c63b1 : (t910.toList != (t917 ++ (⟨#[32, 73, 110, 102]⟩ : ByteArray)).toList) = false := bne_eq_false_iff_eq.mpr c63
            clear c63
            replace H := bs H
            obtain ⟨t919, A64, H⟩ := H
            obtain rfl := Option.some.inj H
            obtain ⟨hcz65_0, hcz65_1, hcz65_2, hcz65_3, hcz65_4, hcz65_5, hcz65_6, hcz65_7, hfz65_0, hfz65_1, hfz65_2, hfz65_3, hfz65_4, hfz65_5, hfz65_6, hfz65_7⟩ := cz8 (W := wc) BK903
            go_wp2_with (first | ((with_reducible refine gate_callee (f := 27) rfl ?_); refine goesL_ (some 83) rfl rfl Tryz.func27 (by kernel_rfl) rfl #[.int .u8 32, .int .i64 ((ji49) - 4)] rfl (by (try simp only [List.map_toArray, List.map_cons, List.map_nil]); first | done | (simp only [hji49]; rfl) | rfl | (simp only [List.length_drop, List.length_take]; rfl)) ?_; (with_reducible refine (buf_Fill.calls 32 ((ji49) - 4) t917 _ A50.out).mono ?_); rintro e w66 ⟨rfl, hb⟩; refine ⟨_, rfl, ?_⟩; replace BK903 := kN (g := gb903) (cs := #[.bool a2_0, .bool false, .bool a2_2, .bool a2_3, .bool a2_4, .int .i64 a2_5, .int .i64 a2_6, .int .i32 a2_7]) hb bk; replace HB := bN bz hb; (try clear hb); (try clear hb2); (try clear hk); (try clear hi); obtain ⟨hcz67_0, hcz67_1, hcz67_2, hcz67_3, hcz67_4, hcz67_5, hcz67_6, hcz67_7, hfz67_0, hfz67_1, hfz67_2, hfz67_3, hfz67_4, hfz67_5, hfz67_6, hfz67_7⟩ := cz8 (W := w66) BK903) | (go_at_call 23; (with_reducible refine (platenlaw06_lives.calls kj41  t919 _ A64.out).mono ?_); rintro e w68 ⟨rfl, hb⟩; replace BK903 := kN (g := gb903) (cs := #[.bool a2_0, .bool false, .bool a2_2, .bool a2_3, .bool a2_4, .int .i64 a2_5, .int .i64 a2_6, .int .i32 a2_7]) hb bk; replace HB := bN bz hb; (try clear hb); (try clear hb2); (try clear hk); (try clear hi)))
            go_ret
            exact ⟨by first | rfl | (simp [errW_none, errW_some] <;> rfl) | (simp only [← hji48, ← hji49]; first | rfl | (simp [errW_none, errW_some] <;> rfl)) | (simp [*, errW_none, errW_some] <;> rfl), bz⟩
           ·replace H := hN H c63
            have c63b0 : (t910.toList == (t917 ++ (⟨#[32, 73, 110, 102]⟩ : ByteArray)).toList) = false := beq_eq_false_iff_ne.mpr c63
            have c63b1 : (t910.toList != (t917 ++ (⟨#[32, 73, 110, 102]⟩ : ByteArray)).toList) = true := bne_iff_ne.mpr c63
            obtain rfl := Option.some.inj H
            obtain ⟨hcz69_0, hcz69_1, hcz69_2, hcz69_3, hcz69_4, hcz69_5, hcz69_6, hcz69_7, hfz69_0, hfz69_1, hfz69_2, hfz69_3, hfz69_4, hfz69_5, hfz69_6, hfz69_7⟩ := cz8 (W := wc) BK903
            go_wp2_with (first | ((with_reducible refine gate_callee (f := 27) rfl ?_); refine goesL_ (some 83) rfl rfl Tryz.func27 (by kernel_rfl) rfl #[.int .u8 32, .int .i64 ((ji49) - 4)] rfl (by (try simp only [List.map_toArray, List.map_cons, List.map_nil]); first | done | (simp only [hji49]; rfl) | rfl | (simp only [List.length_drop, List.length_take]; rfl)) ?_; (with_reducible refine (buf_Fill.calls 32 ((ji49) - 4) t917 _ A50.out).mono ?_); rintro e w70 ⟨rfl, hb⟩; refine ⟨_, rfl, ?_⟩; replace BK903 := kN (g := gb903) (cs := #[.bool a2_0, .bool false, .bool a2_2, .bool a2_3, .bool a2_4, .int .i64 a2_5, .int .i64 a2_6, .int .i32 a2_7]) hb bk; replace HB := bN bz hb; (try clear hb); (try clear hb2); (try clear hk); (try clear hi); obtain ⟨hcz71_0, hcz71_1, hcz71_2, hcz71_3, hcz71_4, hcz71_5, hcz71_6, hcz71_7, hfz71_0, hfz71_1, hfz71_2, hfz71_3, hfz71_4, hfz71_5, hfz71_6, hfz71_7⟩ := cz8 (W := w70) BK903))
            go_ret
            exact ⟨by first | rfl | (simp [errW_none, errW_some] <;> rfl) | (simp only [← hji48, ← hji49]; first | rfl | (simp [errW_none, errW_some] <;> rfl)) | (simp [*, errW_none, errW_some] <;> rfl), bz⟩
          ·replace H := hN H c62
           exact absurd H (by simp)
        ·replace c47 := Bool.eq_false_iff.mpr c47
         subst c47
         replace H := hF H
         by_cases c72 : t908 = 1
         ·replace H := hE H c72
          obtain ⟨c72b0, c72b1⟩ := eT c72
          clear c72
          obtain ⟨ji73, hji73⟩ : ∃ j_ : Int, (mn a2_5 1000) = j_ := ⟨_, rfl⟩
          (first | rw [hji73] at H | simp only [hji73] at H)
          have hji73_ : (if 1000 < a2_5 then 1000 else a2_5) = ji73 := hji73
          obtain ⟨ji74, hji74⟩ : ∃ j_ : Int, (mx 0 (ji73)) = j_ := ⟨_, rfl⟩
          (first | rw [hji74] at H | simp only [hji74] at H)
          have hji74_ : (if 0 < (ji73) then (ji73) else 0) = ji74 := hji74
          replace H := bs H
          obtain ⟨t920, A75, H⟩ := H
          by_cases c76 : a2_1 = true
          ·subst c76
           replace H := hT H
           by_cases c77 : 4 + t920.size ≤ 9223372036854775807
           ·replace H := hE H c77
            have c77b0 := eq_true c77
            have c77b1 : decide (4 + t920.size ≤ 9223372036854775807) = true := decide_eq_true c77
            try have c77b2 : (9223372036854775807 < 4 + t920.size) = False := eq_false (Nat.not_lt.2 c77)
            by_cases c78 : t910.toList = ((⟨#[43, 73, 110, 102]⟩ : ByteArray) ++ t920).toList
            ·replace H := hE H c78
             have c78b0 : (t910.toList == ((⟨#[43, 73, 110, 102]⟩ : ByteArray) ++ t920).toList) = true := beq_iff_eq.mpr c78
             have c78b1 : (t910.toList != ((⟨#[43, 73, 110, 102]⟩ : ByteArray) ++ t920).toList) = false := bne_eq_false_iff_eq.mpr c78
             clear c78
             replace H := bs H
             obtain ⟨t921, A79, H⟩ := H
             obtain rfl := Option.some.inj H
             obtain ⟨hcz80_0, hcz80_1, hcz80_2, hcz80_3, hcz80_4, hcz80_5, hcz80_6, hcz80_7, hfz80_0, hfz80_1, hfz80_2, hfz80_3, hfz80_4, hfz80_5, hfz80_6, hfz80_7⟩ := cz8 (W := wc) BK903
             go_wp2_with (first | ((with_reducible refine gate_callee (f := 27) rfl ?_); refine goesL_ (some 83) rfl rfl Tryz.func27 (by kernel_rfl) rfl #[.int .u8 32, .int .i64 ((ji74) - 4)] rfl (by (try simp only [List.map_toArray, List.map_cons, List.map_nil]); first | done | (simp only [hji74]; rfl) | rfl | (simp only [List.length_drop, List.length_take]; rfl)) ?_; (with_reducible refine (buf_Fill.calls 32 ((ji74) - 4) t920 _ A75.out).mono ?_); rintro e w81 ⟨rfl, hb⟩; refine ⟨_, rfl, ?_⟩; replace BK903 := kN (g := gb903) (cs := #[.bool a2_0, .bool true, .bool a2_2, .bool a2_3, .bool a2_4, .int .i64 a2_5, .int .i64 a2_6, .int .i32 a2_7]) hb bk; replace HB := bN bz hb; (try clear hb); (try clear hb2); (try clear hk); (try clear hi); obtain ⟨hcz82_0, hcz82_1, hcz82_2, hcz82_3, hcz82_4, hcz82_5, hcz82_6, hcz82_7, hfz82_0, hfz82_1, hfz82_2, hfz82_3, hfz82_4, hfz82_5, hfz82_6, hfz82_7⟩ := cz8 (W := w81) BK903) | (go_at_call 23; (with_reducible refine (platenlaw06_lives.calls kj41  t921 _ A79.out).mono ?_); rintro e w83 ⟨rfl, hb⟩; replace BK903 := kN (g := gb903) (cs := #[.bool a2_0, .bool true, .bool a2_2, .bool a2_3, .bool a2_4, .int .i64 a2_5, .int .i64 a2_6, .int .i32 a2_7]) hb bk; replace HB := bN bz hb; (try clear hb); (try clear hb2); (try clear hk); (try clear hi)))
             go_ret
             exact ⟨by first | rfl | (simp [errW_none, errW_some] <;> rfl) | (simp only [← hji73, ← hji74]; first | rfl | (simp [errW_none, errW_some] <;> rfl)) | (simp [*, errW_none, errW_some] <;> rfl), bz⟩
            ·replace H := hN H c78
             have c78b0 : (t910.toList == ((⟨#[43, 73, 110, 102]⟩ : ByteArray) ++ t920).toList) = false := beq_eq_false_iff_ne.mpr c78
             have c78b1 : (t910.toList != ((⟨#[43, 73, 110, 102]⟩ : ByteArray) ++ t920).toList) = true := bne_iff_ne.mpr c78
             obtain rfl := Option.some.inj H
             obtain ⟨hcz84_0, hcz84_1, hcz84_2, hcz84_3, hcz84_4, hcz84_5, hcz84_6, hcz84_7, hfz84_0, hfz84_1, hfz84_2, hfz84_3, hfz84_4, hfz84_5, hfz84_6, hfz84_7⟩ := cz8 (W := wc) BK903
             go_wp2_with (first | ((with_reducible refine gate_callee (f := 27) rfl ?_); refine goesL_ (some 83) rfl rfl Tryz.func27 (by kernel_rfl) rfl #[.int .u8 32, .int .i64 ((ji74) - 4)] rfl (by (try simp only [List.map_toArray, List.map_cons, List.map_nil]); first | done | (simp only [hji74]; rfl) | rfl | (simp only [List.length_drop, List.length_take]; rfl)) ?_; (with_reducible refine (buf_Fill.calls 32 ((ji74) - 4) t920 _ A75.out).mono ?_); rintro e w85 ⟨rfl, hb⟩; refine ⟨_, rfl, ?_⟩; replace BK903 := kN (g := gb903) (cs := #[.bool a2_0, .bool true, .bool a2_2, .bool a2_3, .bool a2_4, .int .i64 a2_5, .int .i64 a2_6, .int .i32 a2_7]) hb bk; replace HB := bN bz hb; (try clear hb); (try clear hb2); (try clear hk); (try clear hi); obtain ⟨hcz86_0, hcz86_1, hcz86_2, hcz86_3, hcz86_4, hcz86_5, hcz86_6, hcz86_7, hfz86_0, hfz86_1, hfz86_2, hfz86_3, hfz86_4, hfz86_5, hfz86_6, hfz86_7⟩ := cz8 (W := w85) BK903))
             go_ret
             exact ⟨by first | rfl | (simp [errW_none, errW_some] <;> rfl) | (simp only [← hji73, ← hji74]; first | rfl | (simp [errW_none, errW_some] <;> rfl)) | (simp [*, errW_none, errW_some] <;> rfl), bz⟩
           ·replace H := hN H c77
            exact absurd H (by simp)
          ·replace c76 := Bool.eq_false_iff.mpr c76
           subst c76
           replace H := hF H
           by_cases c87 : t920.size + 4 ≤ 9223372036854775807
           ·replace H := hE H c87
            have c87b0 := eq_true c87
            have c87b1 : decide (t920.size + 4 ≤ 9223372036854775807) = true := decide_eq_true c87
            try have c87b2 : (9223372036854775807 < t920.size + 4) = False := eq_false (Nat.not_lt.2 c87)
            by_cases c88 : t910.toList = (t920 ++ (⟨#[43, 73, 110, 102]⟩ : ByteArray)).toList
            ·replace H := hE H c88
             have c88b0 : (t910.toList == (t920 ++ (⟨#[43, 73, 110, 102]⟩ : ByteArray)).toList) = true := beq_iff_eq.mpr c88
             have c88b1 : (t910.toList != (t920 ++ (⟨#[43, 73, 110, 102]⟩ : ByteArray)).toList) = false := bne_eq_false_iff_eq.mpr c88
             clear c88
             replace H := bs H
             obtain ⟨t922, A89, H⟩ := H
             obtain rfl := Option.some.inj H
             obtain ⟨hcz90_0, hcz90_1, hcz90_2, hcz90_3, hcz90_4, hcz90_5, hcz90_6, hcz90_7, hfz90_0, hfz90_1, hfz90_2, hfz90_3, hfz90_4, hfz90_5, hfz90_6, hfz90_7⟩ := cz8 (W := wc) BK903
             go_wp2_with (first | ((with_reducible refine gate_callee (f := 27) rfl ?_); refine goesL_ (some 83) rfl rfl Tryz.func27 (by kernel_rfl) rfl #[.int .u8 32, .int .i64 ((ji74) - 4)] rfl (by (try simp only [List.map_toArray, List.map_cons, List.map_nil]); first | done | (simp only [hji74]; rfl) | rfl | (simp only [List.length_drop, List.length_take]; rfl)) ?_; (with_reducible refine (buf_Fill.calls 32 ((ji74) - 4) t920 _ A75.out).mono ?_); rintro e w91 ⟨rfl, hb⟩; refine ⟨_, rfl, ?_⟩; replace BK903 := kN (g := gb903) (cs := #[.bool a2_0, .bool false, .bool a2_2, .bool a2_3, .bool a2_4, .int .i64 a2_5, .int .i64 a2_6, .int .i32 a2_7]) hb bk; replace HB := bN bz hb; (try clear hb); (try clear hb2); (try clear hk); (try clear hi); obtain ⟨hcz92_0, hcz92_1, hcz92_2, hcz92_3, hcz92_4, hcz92_5, hcz92_6, hcz92_7, hfz92_0, hfz92_1, hfz92_2, hfz92_3, hfz92_4, hfz92_5, hfz92_6, hfz92_7⟩ := cz8 (W := w91) BK903) | (go_at_call 23; (with_reducible refine (platenlaw06_lives.calls kj41  t922 _ A89.out).mono ?_); rintro e w93 ⟨rfl, hb⟩; replace BK903 := kN (g := gb903) (cs := #[.bool a2_0, .bool false, .bool a2_2, .bool a2_3, .bool a2_4, .int .i64 a2_5, .int .i64 a2_6, .int .i32 a2_7]) hb bk; replace HB := bN bz hb; (try clear hb); (try clear hb2); (try clear hk); (try clear hi)))
             go_ret
             exact ⟨by first | rfl | (simp [errW_none, errW_some] <;> rfl) | (simp only [← hji73, ← hji74]; first | rfl | (simp [errW_none, errW_some] <;> rfl)) | (simp [*, errW_none, errW_some] <;> rfl), bz⟩
            ·replace H := hN H c88
             have c88b0 : (t910.toList == (t920 ++ (⟨#[43, 73, 110, 102]⟩ : ByteArray)).toList) = false := beq_eq_false_iff_ne.mpr c88
             have c88b1 : (t910.toList != (t920 ++ (⟨#[43, 73, 110, 102]⟩ : ByteArray)).toList) = true := bne_iff_ne.mpr c88
             obtain rfl := Option.some.inj H
             obtain ⟨hcz94_0, hcz94_1, hcz94_2, hcz94_3, hcz94_4, hcz94_5, hcz94_6, hcz94_7, hfz94_0, hfz94_1, hfz94_2, hfz94_3, hfz94_4, hfz94_5, hfz94_6, hfz94_7⟩ := cz8 (W := wc) BK903
             go_wp2_with (first | ((with_reducible refine gate_callee (f := 27) rfl ?_); refine goesL_ (some 83) rfl rfl Tryz.func27 (by kernel_rfl) rfl #[.int .u8 32, .int .i64 ((ji74) - 4)] rfl (by (try simp only [List.map_toArray, List.map_cons, List.map_nil]); first | done | (simp only [hji74]; rfl) | rfl | (simp only [List.length_drop, List.length_take]; rfl)) ?_; (with_reducible refine (buf_Fill.calls 32 ((ji74) - 4) t920 _ A75.out).mono ?_); rintro e w95 ⟨rfl, hb⟩; refine ⟨_, rfl, ?_⟩; replace BK903 := kN (g := gb903) (cs := #[.bool a2_0, .bool false, .bool a2_2, .bool a2_3, .bool a2_4, .int .i64 a2_5, .int .i64 a2_6, .int .i32 a2_7]) hb bk; replace HB := bN bz hb; (try clear hb); (try clear hb2); (try clear hk); (try clear hi); obtain ⟨hcz96_0, hcz96_1, hcz96_2, hcz96_3, hcz96_4, hcz96_5, hcz96_6, hcz96_7, hfz96_0, hfz96_1, hfz96_2, hfz96_3, hfz96_4, hfz96_5, hfz96_6, hfz96_7⟩ := cz8 (W := w95) BK903))
             go_ret
             exact ⟨by first | rfl | (simp [errW_none, errW_some] <;> rfl) | (simp only [← hji73, ← hji74]; first | rfl | (simp [errW_none, errW_some] <;> rfl)) | (simp [*, errW_none, errW_some] <;> rfl), bz⟩
           ·replace H := hN H c87
            exact absurd H (by simp)
         ·replace H := hN H c72
          obtain ⟨c72b0, c72b1⟩ := eF c72
          by_cases c97 : a2_0 = true
          ·subst c97
           replace H := hT H
           obtain ⟨ji98, hji98⟩ : ∃ j_ : Int, (mn a2_5 1000) = j_ := ⟨_, rfl⟩
           (first | rw [hji98] at H | simp only [hji98] at H)
           have hji98_ : (if 1000 < a2_5 then 1000 else a2_5) = ji98 := hji98
           obtain ⟨ji99, hji99⟩ : ∃ j_ : Int, (mx 0 (ji98)) = j_ := ⟨_, rfl⟩
           (first | rw [hji99] at H | simp only [hji99] at H)
           have hji99_ : (if 0 < (ji98) then (ji98) else 0) = ji99 := hji99
           replace H := bs H
           obtain ⟨t923, A100, H⟩ := H
           by_cases c101 : a2_1 = true
           ·subst c101
            replace H := hT H
            by_cases c102 : 4 + t923.size ≤ 9223372036854775807
            ·replace H := hE H c102
             have c102b0 := eq_true c102
             have c102b1 : decide (4 + t923.size ≤ 9223372036854775807) = true := decide_eq_true c102
             try have c102b2 : (9223372036854775807 < 4 + t923.size) = False := eq_false (Nat.not_lt.2 c102)
             by_cases c103 : t910.toList = ((⟨#[43, 78, 97, 78]⟩ : ByteArray) ++ t923).toList
             ·replace H := hE H c103
              have c103b0 : (t910.toList == ((⟨#[43, 78, 97, 78]⟩ : ByteArray) ++ t923).toList) = true := beq_iff_eq.mpr c103
              have c103b1 : (t910.toList != ((⟨#[43, 78, 97, 78]⟩ : ByteArray) ++ t923).toList) = false := bne_eq_false_iff_eq.mpr c103
              clear c103
              replace H := bs H
              obtain ⟨t924, A104, H⟩ := H
              obtain rfl := Option.some.inj H
              obtain ⟨hcz105_0, hcz105_1, hcz105_2, hcz105_3, hcz105_4, hcz105_5, hcz105_6, hcz105_7, hfz105_0, hfz105_1, hfz105_2, hfz105_3, hfz105_4, hfz105_5, hfz105_6, hfz105_7⟩ := cz8 (W := wc) BK903
              go_wp2_with (first | ((with_reducible refine gate_callee (f := 27) rfl ?_); refine goesL_ (some 83) rfl rfl Tryz.func27 (by kernel_rfl) rfl #[.int .u8 32, .int .i64 ((ji99) - 4)] rfl (by (try simp only [List.map_toArray, List.map_cons, List.map_nil]); first | done | (simp only [hji99]; rfl) | rfl | (simp only [List.length_drop, List.length_take]; rfl)) ?_; (with_reducible refine (buf_Fill.calls 32 ((ji99) - 4) t923 _ A100.out).mono ?_); rintro e w106 ⟨rfl, hb⟩; refine ⟨_, rfl, ?_⟩; replace BK903 := kN (g := gb903) (cs := #[.bool true, .bool true, .bool a2_2, .bool a2_3, .bool a2_4, .int .i64 a2_5, .int .i64 a2_6, .int .i32 a2_7]) hb bk; replace HB := bN bz hb; (try clear hb); (try clear hb2); (try clear hk); (try clear hi); obtain ⟨hcz107_0, hcz107_1, hcz107_2, hcz107_3, hcz107_4, hcz107_5, hcz107_6, hcz107_7, hfz107_0, hfz107_1, hfz107_2, hfz107_3, hfz107_4, hfz107_5, hfz107_6, hfz107_7⟩ := cz8 (W := w106) BK903) | (go_at_call 23; (with_reducible refine (platenlaw06_lives.calls kj41  t924 _ A104.out).mono ?_); rintro e w108 ⟨rfl, hb⟩; replace BK903 := kN (g := gb903) (cs := #[.bool true, .bool true, .bool a2_2, .bool a2_3, .bool a2_4, .int .i64 a2_5, .int .i64 a2_6, .int .i32 a2_7]) hb bk; replace HB := bN bz hb; (try clear hb); (try clear hb2); (try clear hk); (try clear hi)))
              go_ret
              exact ⟨by first | rfl | (simp [errW_none, errW_some] <;> rfl) | (simp only [← hji98, ← hji99]; first | rfl | (simp [errW_none, errW_some] <;> rfl)) | (simp [*, errW_none, errW_some] <;> rfl), bz⟩
             ·replace H := hN H c103
              have c103b0 : (t910.toList == ((⟨#[43, 78, 97, 78]⟩ : ByteArray) ++ t923).toList) = false := beq_eq_false_iff_ne.mpr c103
              have c103b1 : (t910.toList != ((⟨#[43, 78, 97, 78]⟩ : ByteArray) ++ t923).toList) = true := bne_iff_ne.mpr c103
              obtain rfl := Option.some.inj H
              obtain ⟨hcz109_0, hcz109_1, hcz109_2, hcz109_3, hcz109_4, hcz109_5, hcz109_6, hcz109_7, hfz109_0, hfz109_1, hfz109_2, hfz109_3, hfz109_4, hfz109_5, hfz109_6, hfz109_7⟩ := cz8 (W := wc) BK903
              go_wp2_with (first | ((with_reducible refine gate_callee (f := 27) rfl ?_); refine goesL_ (some 83) rfl rfl Tryz.func27 (by kernel_rfl) rfl #[.int .u8 32, .int .i64 ((ji99) - 4)] rfl (by (try simp only [List.map_toArray, List.map_cons, List.map_nil]); first | done | (simp only [hji99]; rfl) | rfl | (simp only [List.length_drop, List.length_take]; rfl)) ?_; (with_reducible refine (buf_Fill.calls 32 ((ji99) - 4) t923 _ A100.out).mono ?_); rintro e w110 ⟨rfl, hb⟩; refine ⟨_, rfl, ?_⟩; replace BK903 := kN (g := gb903) (cs := #[.bool true, .bool true, .bool a2_2, .bool a2_3, .bool a2_4, .int .i64 a2_5, .int .i64 a2_6, .int .i32 a2_7]) hb bk; replace HB := bN bz hb; (try clear hb); (try clear hb2); (try clear hk); (try clear hi); obtain ⟨hcz111_0, hcz111_1, hcz111_2, hcz111_3, hcz111_4, hcz111_5, hcz111_6, hcz111_7, hfz111_0, hfz111_1, hfz111_2, hfz111_3, hfz111_4, hfz111_5, hfz111_6, hfz111_7⟩ := cz8 (W := w110) BK903))
              go_ret
              exact ⟨by first | rfl | (simp [errW_none, errW_some] <;> rfl) | (simp only [← hji98, ← hji99]; first | rfl | (simp [errW_none, errW_some] <;> rfl)) | (simp [*, errW_none, errW_some] <;> rfl), bz⟩
            ·replace H := hN H c102
             exact absurd H (by simp)
           ·replace c101 := Bool.eq_false_iff.mpr c101
            subst c101
            replace H := hF H
            by_cases c112 : t923.size + 4 ≤ 9223372036854775807
            ·replace H := hE H c112
             have c112b0 := eq_true c112
             have c112b1 : decide (t923.size + 4 ≤ 9223372036854775807) = true := decide_eq_true c112
             try have c112b2 : (9223372036854775807 < t923.size + 4) = False := eq_false (Nat.not_lt.2 c112)
             by_cases c113 : t910.toList = (t923 ++ (⟨#[43, 78, 97, 78]⟩ : ByteArray)).toList
             ·replace H := hE H c113
              have c113b0 : (t910.toList == (t923 ++ (⟨#[43, 78, 97, 78]⟩ : ByteArray)).toList) = true := beq_iff_eq.mpr c113
              have c113b1 : (t910.toList != (t923 ++ (⟨#[43, 78, 97, 78]⟩ : ByteArray)).toList) = false := bne_eq_false_iff_eq.mpr c113
              clear c113
              replace H := bs H
              obtain ⟨t925, A114, H⟩ := H
              obtain rfl := Option.some.inj H
              obtain ⟨hcz115_0, hcz115_1, hcz115_2, hcz115_3, hcz115_4, hcz115_5, hcz115_6, hcz115_7, hfz115_0, hfz115_1, hfz115_2, hfz115_3, hfz115_4, hfz115_5, hfz115_6, hfz115_7⟩ := cz8 (W := wc) BK903
              go_wp2_with (first | ((with_reducible refine gate_callee (f := 27) rfl ?_); refine goesL_ (some 83) rfl rfl Tryz.func27 (by kernel_rfl) rfl #[.int .u8 32, .int .i64 ((ji99) - 4)] rfl (by (try simp only [List.map_toArray, List.map_cons, List.map_nil]); first | done | (simp only [hji99]; rfl) | rfl | (simp only [List.length_drop, List.length_take]; rfl)) ?_; (with_reducible refine (buf_Fill.calls 32 ((ji99) - 4) t923 _ A100.out).mono ?_); rintro e w116 ⟨rfl, hb⟩; refine ⟨_, rfl, ?_⟩; replace BK903 := kN (g := gb903) (cs := #[.bool true, .bool false, .bool a2_2, .bool a2_3, .bool a2_4, .int .i64 a2_5, .int .i64 a2_6, .int .i32 a2_7]) hb bk; replace HB := bN bz hb; (try clear hb); (try clear hb2); (try clear hk); (try clear hi); obtain ⟨hcz117_0, hcz117_1, hcz117_2, hcz117_3, hcz117_4, hcz117_5, hcz117_6, hcz117_7, hfz117_0, hfz117_1, hfz117_2, hfz117_3, hfz117_4, hfz117_5, hfz117_6, hfz117_7⟩ := cz8 (W := w116) BK903) | (go_at_call 23; (with_reducible refine (platenlaw06_lives.calls kj41  t925 _ A114.out).mono ?_); rintro e w118 ⟨rfl, hb⟩; replace BK903 := kN (g := gb903) (cs := #[.bool true, .bool false, .bool a2_2, .bool a2_3, .bool a2_4, .int .i64 a2_5, .int .i64 a2_6, .int .i32 a2_7]) hb bk; replace HB := bN bz hb; (try clear hb); (try clear hb2); (try clear hk); (try clear hi)))
              go_ret
              exact ⟨by first | rfl | (simp [errW_none, errW_some] <;> rfl) | (simp only [← hji98, ← hji99]; first | rfl | (simp [errW_none, errW_some] <;> rfl)) | (simp [*, errW_none, errW_some] <;> rfl), bz⟩
             ·replace H := hN H c113
              have c113b0 : (t910.toList == (t923 ++ (⟨#[43, 78, 97, 78]⟩ : ByteArray)).toList) = false := beq_eq_false_iff_ne.mpr c113
              have c113b1 : (t910.toList != (t923 ++ (⟨#[43, 78, 97, 78]⟩ : ByteArray)).toList) = true := bne_iff_ne.mpr c113
              obtain rfl := Option.some.inj H
              obtain ⟨hcz119_0, hcz119_1, hcz119_2, hcz119_3, hcz119_4, hcz119_5, hcz119_6, hcz119_7, hfz119_0, hfz119_1, hfz119_2, hfz119_3, hfz119_4, hfz119_5, hfz119_6, hfz119_7⟩ := cz8 (W := wc) BK903
              go_wp2_with (first | ((with_reducible refine gate_callee (f := 27) rfl ?_); refine goesL_ (some 83) rfl rfl Tryz.func27 (by kernel_rfl) rfl #[.int .u8 32, .int .i64 ((ji99) - 4)] rfl (by (try simp only [List.map_toArray, List.map_cons, List.map_nil]); first | done | (simp only [hji99]; rfl) | rfl | (simp only [List.length_drop, List.length_take]; rfl)) ?_; (with_reducible refine (buf_Fill.calls 32 ((ji99) - 4) t923 _ A100.out).mono ?_); rintro e w120 ⟨rfl, hb⟩; refine ⟨_, rfl, ?_⟩; replace BK903 := kN (g := gb903) (cs := #[.bool true, .bool false, .bool a2_2, .bool a2_3, .bool a2_4, .int .i64 a2_5, .int .i64 a2_6, .int .i32 a2_7]) hb bk; replace HB := bN bz hb; (try clear hb); (try clear hb2); (try clear hk); (try clear hi); obtain ⟨hcz121_0, hcz121_1, hcz121_2, hcz121_3, hcz121_4, hcz121_5, hcz121_6, hcz121_7, hfz121_0, hfz121_1, hfz121_2, hfz121_3, hfz121_4, hfz121_5, hfz121_6, hfz121_7⟩ := cz8 (W := w120) BK903))
              go_ret
              exact ⟨by first | rfl | (simp [errW_none, errW_some] <;> rfl) | (simp only [← hji98, ← hji99]; first | rfl | (simp [errW_none, errW_some] <;> rfl)) | (simp [*, errW_none, errW_some] <;> rfl), bz⟩
            ·replace H := hN H c112
             exact absurd H (by simp)
          ·replace c97 := Bool.eq_false_iff.mpr c97
           subst c97
           replace H := hF H
           by_cases c122 : a2_3 = true
           ·subst c122
            replace H := hT H
            obtain ⟨ji123, hji123⟩ : ∃ j_ : Int, (mn a2_5 1000) = j_ := ⟨_, rfl⟩
            (first | rw [hji123] at H | simp only [hji123] at H)
            have hji123_ : (if 1000 < a2_5 then 1000 else a2_5) = ji123 := hji123
            obtain ⟨ji124, hji124⟩ : ∃ j_ : Int, (mx 0 (ji123)) = j_ := ⟨_, rfl⟩
            (first | rw [hji124] at H | simp only [hji124] at H)
            have hji124_ : (if 0 < (ji123) then (ji123) else 0) = ji124 := hji124
            replace H := bs H
            obtain ⟨t926, A125, H⟩ := H
            by_cases c126 : a2_1 = true
            ·subst c126
             replace H := hT H
             by_cases c127 : 4 + t926.size ≤ 9223372036854775807
             ·replace H := hE H c127
              have c127b0 := eq_true c127
              have c127b1 : decide (4 + t926.size ≤ 9223372036854775807) = true := decide_eq_true c127
              try have c127b2 : (9223372036854775807 < 4 + t926.size) = False := eq_false (Nat.not_lt.2 c127)
              by_cases c128 : t910.toList = ((⟨#[32, 78, 97, 78]⟩ : ByteArray) ++ t926).toList
              ·replace H := hE H c128
               have c128b0 : (t910.toList == ((⟨#[32, 78, 97, 78]⟩ : ByteArray) ++ t926).toList) = true := beq_iff_eq.mpr c128
               have c128b1 : (t910.toList != ((⟨#[32, 78, 97, 78]⟩ : ByteArray) ++ t926).toList) = false := bne_eq_false_iff_eq.mpr c128
               clear c128
               replace H := bs H
               obtain ⟨t927, A129, H⟩ := H
               obtain rfl := Option.some.inj H
               obtain ⟨hcz130_0, hcz130_1, hcz130_2, hcz130_3, hcz130_4, hcz130_5, hcz130_6, hcz130_7, hfz130_0, hfz130_1, hfz130_2, hfz130_3, hfz130_4, hfz130_5, hfz130_6, hfz130_7⟩ := cz8 (W := wc) BK903
               go_wp2_with (first | ((with_reducible refine gate_callee (f := 27) rfl ?_); refine goesL_ (some 83) rfl rfl Tryz.func27 (by kernel_rfl) rfl #[.int .u8 32, .int .i64 ((ji124) - 4)] rfl (by (try simp only [List.map_toArray, List.map_cons, List.map_nil]); first | done | (simp only [hji124]; rfl) | rfl | (simp only [List.length_drop, List.length_take]; rfl)) ?_; (with_reducible refine (buf_Fill.calls 32 ((ji124) - 4) t926 _ A125.out).mono ?_); rintro e w131 ⟨rfl, hb⟩; refine ⟨_, rfl, ?_⟩; replace BK903 := kN (g := gb903) (cs := #[.bool false, .bool true, .bool a2_2, .bool true, .bool a2_4, .int .i64 a2_5, .int .i64 a2_6, .int .i32 a2_7]) hb bk; replace HB := bN bz hb; (try clear hb); (try clear hb2); (try clear hk); (try clear hi); obtain ⟨hcz132_0, hcz132_1, hcz132_2, hcz132_3, hcz132_4, hcz132_5, hcz132_6, hcz132_7, hfz132_0, hfz132_1, hfz132_2, hfz132_3, hfz132_4, hfz132_5, hfz132_6, hfz132_7⟩ := cz8 (W := w131) BK903) | (go_at_call 23; (with_reducible refine (platenlaw06_lives.calls kj41  t927 _ A129.out).mono ?_); rintro e w133 ⟨rfl, hb⟩; replace BK903 := kN (g := gb903) (cs := #[.bool false, .bool true, .bool a2_2, .bool true, .bool a2_4, .int .i64 a2_5, .int .i64 a2_6, .int .i32 a2_7]) hb bk; replace HB := bN bz hb; (try clear hb); (try clear hb2); (try clear hk); (try clear hi)))
               go_ret
               exact ⟨by first | rfl | (simp [errW_none, errW_some] <;> rfl) | (simp only [← hji123, ← hji124]; first | rfl | (simp [errW_none, errW_some] <;> rfl)) | (simp [*, errW_none, errW_some] <;> rfl), bz⟩
              ·replace H := hN H c128
               have c128b0 : (t910.toList == ((⟨#[32, 78, 97, 78]⟩ : ByteArray) ++ t926).toList) = false := beq_eq_false_iff_ne.mpr c128
               have c128b1 : (t910.toList != ((⟨#[32, 78, 97, 78]⟩ : ByteArray) ++ t926).toList) = true := bne_iff_ne.mpr c128
               obtain rfl := Option.some.inj H
               obtain ⟨hcz134_0, hcz134_1, hcz134_2, hcz134_3, hcz134_4, hcz134_5, hcz134_6, hcz134_7, hfz134_0, hfz134_1, hfz134_2, hfz134_3, hfz134_4, hfz134_5, hfz134_6, hfz134_7⟩ := cz8 (W := wc) BK903
               go_wp2_with (first | ((with_reducible refine gate_callee (f := 27) rfl ?_); refine goesL_ (some 83) rfl rfl Tryz.func27 (by kernel_rfl) rfl #[.int .u8 32, .int .i64 ((ji124) - 4)] rfl (by (try simp only [List.map_toArray, List.map_cons, List.map_nil]); first | done | (simp only [hji124]; rfl) | rfl | (simp only [List.length_drop, List.length_take]; rfl)) ?_; (with_reducible refine (buf_Fill.calls 32 ((ji124) - 4) t926 _ A125.out).mono ?_); rintro e w135 ⟨rfl, hb⟩; refine ⟨_, rfl, ?_⟩; replace BK903 := kN (g := gb903) (cs := #[.bool false, .bool true, .bool a2_2, .bool true, .bool a2_4, .int .i64 a2_5, .int .i64 a2_6, .int .i32 a2_7]) hb bk; replace HB := bN bz hb; (try clear hb); (try clear hb2); (try clear hk); (try clear hi); obtain ⟨hcz136_0, hcz136_1, hcz136_2, hcz136_3, hcz136_4, hcz136_5, hcz136_6, hcz136_7, hfz136_0, hfz136_1, hfz136_2, hfz136_3, hfz136_4, hfz136_5, hfz136_6, hfz136_7⟩ := cz8 (W := w135) BK903))
               go_ret
               exact ⟨by first | rfl | (simp [errW_none, errW_some] <;> rfl) | (simp only [← hji123, ← hji124]; first | rfl | (simp [errW_none, errW_some] <;> rfl)) | (simp [*, errW_none, errW_some] <;> rfl), bz⟩
             ·replace H := hN H c127
              exact absurd H (by simp)
            ·replace c126 := Bool.eq_false_iff.mpr c126
             subst c126
             replace H := hF H
             by_cases c137 : t926.size + 4 ≤ 9223372036854775807
             ·replace H := hE H c137
              have c137b0 := eq_true c137
              have c137b1 : decide (t926.size + 4 ≤ 9223372036854775807) = true := decide_eq_true c137
              try have c137b2 : (9223372036854775807 < t926.size + 4) = False := eq_false (Nat.not_lt.2 c137)
              by_cases c138 : t910.toList = (t926 ++ (⟨#[32, 78, 97, 78]⟩ : ByteArray)).toList
              ·replace H := hE H c138
               have c138b0 : (t910.toList == (t926 ++ (⟨#[32, 78, 97, 78]⟩ : ByteArray)).toList) = true := beq_iff_eq.mpr c138
               have c138b1 : (t910.toList != (t926 ++ (⟨#[32, 78, 97, 78]⟩ : ByteArray)).toList) = false := bne_eq_false_iff_eq.mpr c138
               clear c138
               replace H := bs H
               obtain ⟨t928, A139, H⟩ := H
               obtain rfl := Option.some.inj H
               obtain ⟨hcz140_0, hcz140_1, hcz140_2, hcz140_3, hcz140_4, hcz140_5, hcz140_6, hcz140_7, hfz140_0, hfz140_1, hfz140_2, hfz140_3, hfz140_4, hfz140_5, hfz140_6, hfz140_7⟩ := cz8 (W := wc) BK903
               go_wp2_with (first | ((with_reducible refine gate_callee (f := 27) rfl ?_); refine goesL_ (some 83) rfl rfl Tryz.func27 (by kernel_rfl) rfl #[.int .u8 32, .int .i64 ((ji124) - 4)] rfl (by (try simp only [List.map_toArray, List.map_cons, List.map_nil]); first | done | (simp only [hji124]; rfl) | rfl | (simp only [List.length_drop, List.length_take]; rfl)) ?_; (with_reducible refine (buf_Fill.calls 32 ((ji124) - 4) t926 _ A125.out).mono ?_); rintro e w141 ⟨rfl, hb⟩; refine ⟨_, rfl, ?_⟩; replace BK903 := kN (g := gb903) (cs := #[.bool false, .bool false, .bool a2_2, .bool true, .bool a2_4, .int .i64 a2_5, .int .i64 a2_6, .int .i32 a2_7]) hb bk; replace HB := bN bz hb; (try clear hb); (try clear hb2); (try clear hk); (try clear hi); obtain ⟨hcz142_0, hcz142_1, hcz142_2, hcz142_3, hcz142_4, hcz142_5, hcz142_6, hcz142_7, hfz142_0, hfz142_1, hfz142_2, hfz142_3, hfz142_4, hfz142_5, hfz142_6, hfz142_7⟩ := cz8 (W := w141) BK903) | (go_at_call 23; (with_reducible refine (platenlaw06_lives.calls kj41  t928 _ A139.out).mono ?_); rintro e w143 ⟨rfl, hb⟩; replace BK903 := kN (g := gb903) (cs := #[.bool false, .bool false, .bool a2_2, .bool true, .bool a2_4, .int .i64 a2_5, .int .i64 a2_6, .int .i32 a2_7]) hb bk; replace HB := bN bz hb; (try clear hb); (try clear hb2); (try clear hk); (try clear hi)))
               go_ret
               exact ⟨by first | rfl | (simp [errW_none, errW_some] <;> rfl) | (simp only [← hji123, ← hji124]; first | rfl | (simp [errW_none, errW_some] <;> rfl)) | (simp [*, errW_none, errW_some] <;> rfl), bz⟩
              ·replace H := hN H c138
               have c138b0 : (t910.toList == (t926 ++ (⟨#[32, 78, 97, 78]⟩ : ByteArray)).toList) = false := beq_eq_false_iff_ne.mpr c138
               have c138b1 : (t910.toList != (t926 ++ (⟨#[32, 78, 97, 78]⟩ : ByteArray)).toList) = true := bne_iff_ne.mpr c138
               obtain rfl := Option.some.inj H
               obtain ⟨hcz144_0, hcz144_1, hcz144_2, hcz144_3, hcz144_4, hcz144_5, hcz144_6, hcz144_7, hfz144_0, hfz144_1, hfz144_2, hfz144_3, hfz144_4, hfz144_5, hfz144_6, hfz144_7⟩ := cz8 (W := wc) BK903
               go_wp2_with (first | ((with_reducible refine gate_callee (f := 27) rfl ?_); refine goesL_ (some 83) rfl rfl Tryz.func27 (by kernel_rfl) rfl #[.int .u8 32, .int .i64 ((ji124) - 4)] rfl (by (try simp only [List.map_toArray, List.map_cons, List.map_nil]); first | done | (simp only [hji124]; rfl) | rfl | (simp only [List.length_drop, List.length_take]; rfl)) ?_; (with_reducible refine (buf_Fill.calls 32 ((ji124) - 4) t926 _ A125.out).mono ?_); rintro e w145 ⟨rfl, hb⟩; refine ⟨_, rfl, ?_⟩; replace BK903 := kN (g := gb903) (cs := #[.bool false, .bool false, .bool a2_2, .bool true, .bool a2_4, .int .i64 a2_5, .int .i64 a2_6, .int .i32 a2_7]) hb bk; replace HB := bN bz hb; (try clear hb); (try clear hb2); (try clear hk); (try clear hi); obtain ⟨hcz146_0, hcz146_1, hcz146_2, hcz146_3, hcz146_4, hcz146_5, hcz146_6, hcz146_7, hfz146_0, hfz146_1, hfz146_2, hfz146_3, hfz146_4, hfz146_5, hfz146_6, hfz146_7⟩ := cz8 (W := w145) BK903))
               go_ret
               exact ⟨by first | rfl | (simp [errW_none, errW_some] <;> rfl) | (simp only [← hji123, ← hji124]; first | rfl | (simp [errW_none, errW_some] <;> rfl)) | (simp [*, errW_none, errW_some] <;> rfl), bz⟩
             ·replace H := hN H c137
              exact absurd H (by simp)
           ·replace c122 := Bool.eq_false_iff.mpr c122
            subst c122
            replace H := hF H
            obtain ⟨ji147, hji147⟩ : ∃ j_ : Int, (mn a2_5 1000) = j_ := ⟨_, rfl⟩
            (first | rw [hji147] at H | simp only [hji147] at H)
            have hji147_ : (if 1000 < a2_5 then 1000 else a2_5) = ji147 := hji147
            obtain ⟨ji148, hji148⟩ : ∃ j_ : Int, (mx 0 (ji147)) = j_ := ⟨_, rfl⟩
            (first | rw [hji148] at H | simp only [hji148] at H)
            have hji148_ : (if 0 < (ji147) then (ji147) else 0) = ji148 := hji148
            replace H := bs H
            obtain ⟨t929, A149, H⟩ := H
            have hlo_ : 0 ≤ ji148 := by rw [← hji148_]; split <;> omega
            have hhi_ : ji148 ≤ 1000 := by rw [← hji148_, ← hji147_]; repeat' split <;> omega
            have hw_ : wrap64 (ji148 - ((⟨#[78, 97, 78]⟩ : ByteArray).size : Int)) = ji148 - 3 := by show wrap64 (ji148 - 3) = _; unfold wrap64; omega
            have A_ := A149.out
            clear A149
            rw [hw_] at A_
            clear hw_
            have A149 := Aside0.mk A_
            clear A_
            by_cases c150 : a2_1 = true
            ·subst c150
             replace H := hT H
             by_cases c151 : (⟨#[78, 97, 78]⟩ : ByteArray).size + t929.size ≤ 9223372036854775807
             ·replace H := hE H c151
              have c151b0 := eq_true c151
              have c151b1 : decide ((⟨#[78, 97, 78]⟩ : ByteArray).size + t929.size ≤ 9223372036854775807) = true := decide_eq_true c151
              try have c151b2 : (9223372036854775807 < (⟨#[78, 97, 78]⟩ : ByteArray).size + t929.size) = False := eq_false (Nat.not_lt.2 c151)
              have c151b8 : (9223372036854775807 < 3 + t929.size) = False := c151b2
              by_cases c152 : t910.toList = ((⟨#[78, 97, 78]⟩ : ByteArray) ++ t929).toList
              ·replace H := hE H c152
               have c152b0 : (t910.toList == ((⟨#[78, 97, 78]⟩ : ByteArray) ++ t929).toList) = true := beq_iff_eq.mpr c152
               have c152b1 : (t910.toList != ((⟨#[78, 97, 78]⟩ : ByteArray) ++ t929).toList) = false := bne_eq_false_iff_eq.mpr c152
               clear c152
               replace H := bs H
               obtain ⟨t930, A153, H⟩ := H
               obtain rfl := Option.some.inj H
               obtain ⟨hcz154_0, hcz154_1, hcz154_2, hcz154_3, hcz154_4, hcz154_5, hcz154_6, hcz154_7, hfz154_0, hfz154_1, hfz154_2, hfz154_3, hfz154_4, hfz154_5, hfz154_6, hfz154_7⟩ := cz8 (W := wc) BK903
               go_wp2_with (first | ((with_reducible refine gate_callee (f := 27) rfl ?_); refine goesL_ (some 83) rfl rfl Tryz.func27 (by kernel_rfl) rfl #[.int .u8 32, .int .i64 (ji148 - 3)] rfl (by (try simp only [List.map_toArray, List.map_cons, List.map_nil]); first | done | (simp only [hji148]; rfl) | rfl | (simp only [List.length_drop, List.length_take]; rfl)) ?_; (with_reducible refine (buf_Fill.calls 32 (ji148 - 3) t929 _ A149.out).mono ?_); rintro e w155 ⟨rfl, hb⟩; refine ⟨_, rfl, ?_⟩; replace BK903 := kN (g := gb903) (cs := #[.bool false, .bool true, .bool a2_2, .bool false, .bool a2_4, .int .i64 a2_5, .int .i64 a2_6, .int .i32 a2_7]) hb bk; replace HB := bN bz hb; (try clear hb); (try clear hb2); (try clear hk); (try clear hi); obtain ⟨hcz156_0, hcz156_1, hcz156_2, hcz156_3, hcz156_4, hcz156_5, hcz156_6, hcz156_7, hfz156_0, hfz156_1, hfz156_2, hfz156_3, hfz156_4, hfz156_5, hfz156_6, hfz156_7⟩ := cz8 (W := w155) BK903) | (go_at_call 23; (with_reducible refine (platenlaw06_lives.calls kj41  t930 _ A153.out).mono ?_); rintro e w157 ⟨rfl, hb⟩; replace BK903 := kN (g := gb903) (cs := #[.bool false, .bool true, .bool a2_2, .bool false, .bool a2_4, .int .i64 a2_5, .int .i64 a2_6, .int .i32 a2_7]) hb bk; replace HB := bN bz hb; (try clear hb); (try clear hb2); (try clear hk); (try clear hi)))
               go_ret
               exact ⟨by first | rfl | (simp [errW_none, errW_some] <;> rfl) | (simp only [← hji147, ← hji148]; first | rfl | (simp [errW_none, errW_some] <;> rfl)) | (simp [*, errW_none, errW_some] <;> rfl), bz⟩
              ·replace H := hN H c152
               have c152b0 : (t910.toList == ((⟨#[78, 97, 78]⟩ : ByteArray) ++ t929).toList) = false := beq_eq_false_iff_ne.mpr c152
               have c152b1 : (t910.toList != ((⟨#[78, 97, 78]⟩ : ByteArray) ++ t929).toList) = true := bne_iff_ne.mpr c152
               obtain rfl := Option.some.inj H
               obtain ⟨hcz158_0, hcz158_1, hcz158_2, hcz158_3, hcz158_4, hcz158_5, hcz158_6, hcz158_7, hfz158_0, hfz158_1, hfz158_2, hfz158_3, hfz158_4, hfz158_5, hfz158_6, hfz158_7⟩ := cz8 (W := wc) BK903
               go_wp2_with (first | ((with_reducible refine gate_callee (f := 27) rfl ?_); refine goesL_ (some 83) rfl rfl Tryz.func27 (by kernel_rfl) rfl #[.int .u8 32, .int .i64 (ji148 - 3)] rfl (by (try simp only [List.map_toArray, List.map_cons, List.map_nil]); first | done | (simp only [hji148]; rfl) | rfl | (simp only [List.length_drop, List.length_take]; rfl)) ?_; (with_reducible refine (buf_Fill.calls 32 (ji148 - 3) t929 _ A149.out).mono ?_); rintro e w159 ⟨rfl, hb⟩; refine ⟨_, rfl, ?_⟩; replace BK903 := kN (g := gb903) (cs := #[.bool false, .bool true, .bool a2_2, .bool false, .bool a2_4, .int .i64 a2_5, .int .i64 a2_6, .int .i32 a2_7]) hb bk; replace HB := bN bz hb; (try clear hb); (try clear hb2); (try clear hk); (try clear hi); obtain ⟨hcz160_0, hcz160_1, hcz160_2, hcz160_3, hcz160_4, hcz160_5, hcz160_6, hcz160_7, hfz160_0, hfz160_1, hfz160_2, hfz160_3, hfz160_4, hfz160_5, hfz160_6, hfz160_7⟩ := cz8 (W := w159) BK903))
               go_ret
               exact ⟨by first | rfl | (simp [errW_none, errW_some] <;> rfl) | (simp only [← hji147, ← hji148]; first | rfl | (simp [errW_none, errW_some] <;> rfl)) | (simp [*, errW_none, errW_some] <;> rfl), bz⟩
             ·replace H := hN H c151
              exact absurd H (by simp)
            ·replace c150 := Bool.eq_false_iff.mpr c150
             subst c150
             replace H := hF H
             by_cases c161 : t929.size + (⟨#[78, 97, 78]⟩ : ByteArray).size ≤ 9223372036854775807
             ·replace H := hE H c161
              have c161b0 := eq_true c161
              have c161b1 : decide (t929.size + (⟨#[78, 97, 78]⟩ : ByteArray).size ≤ 9223372036854775807) = true := decide_eq_true c161
              try have c161b2 : (9223372036854775807 < t929.size + (⟨#[78, 97, 78]⟩ : ByteArray).size) = False := eq_false (Nat.not_lt.2 c161)
              have c161b8 : (9223372036854775807 < t929.size + 3) = False := c161b2
              by_cases c162 : t910.toList = (t929 ++ (⟨#[78, 97, 78]⟩ : ByteArray)).toList
              ·replace H := hE H c162
               have c162b0 : (t910.toList == (t929 ++ (⟨#[78, 97, 78]⟩ : ByteArray)).toList) = true := beq_iff_eq.mpr c162
               have c162b1 : (t910.toList != (t929 ++ (⟨#[78, 97, 78]⟩ : ByteArray)).toList) = false := bne_eq_false_iff_eq.mpr c162
               clear c162
               replace H := bs H
               obtain ⟨t931, A163, H⟩ := H
               obtain rfl := Option.some.inj H
               obtain ⟨hcz164_0, hcz164_1, hcz164_2, hcz164_3, hcz164_4, hcz164_5, hcz164_6, hcz164_7, hfz164_0, hfz164_1, hfz164_2, hfz164_3, hfz164_4, hfz164_5, hfz164_6, hfz164_7⟩ := cz8 (W := wc) BK903
               go_wp2_with (first | ((with_reducible refine gate_callee (f := 27) rfl ?_); refine goesL_ (some 83) rfl rfl Tryz.func27 (by kernel_rfl) rfl #[.int .u8 32, .int .i64 (ji148 - 3)] rfl (by (try simp only [List.map_toArray, List.map_cons, List.map_nil]); first | done | (simp only [hji148]; rfl) | rfl | (simp only [List.length_drop, List.length_take]; rfl)) ?_; (with_reducible refine (buf_Fill.calls 32 (ji148 - 3) t929 _ A149.out).mono ?_); rintro e w165 ⟨rfl, hb⟩; refine ⟨_, rfl, ?_⟩; replace BK903 := kN (g := gb903) (cs := #[.bool false, .bool false, .bool a2_2, .bool false, .bool a2_4, .int .i64 a2_5, .int .i64 a2_6, .int .i32 a2_7]) hb bk; replace HB := bN bz hb; (try clear hb); (try clear hb2); (try clear hk); (try clear hi); obtain ⟨hcz166_0, hcz166_1, hcz166_2, hcz166_3, hcz166_4, hcz166_5, hcz166_6, hcz166_7, hfz166_0, hfz166_1, hfz166_2, hfz166_3, hfz166_4, hfz166_5, hfz166_6, hfz166_7⟩ := cz8 (W := w165) BK903) | (go_at_call 23; (with_reducible refine (platenlaw06_lives.calls kj41  t931 _ A163.out).mono ?_); rintro e w167 ⟨rfl, hb⟩; replace BK903 := kN (g := gb903) (cs := #[.bool false, .bool false, .bool a2_2, .bool false, .bool a2_4, .int .i64 a2_5, .int .i64 a2_6, .int .i32 a2_7]) hb bk; replace HB := bN bz hb; (try clear hb); (try clear hb2); (try clear hk); (try clear hi)))
               go_ret
               exact ⟨by first | rfl | (simp [errW_none, errW_some] <;> rfl) | (simp only [← hji147, ← hji148]; first | rfl | (simp [errW_none, errW_some] <;> rfl)) | (simp [*, errW_none, errW_some] <;> rfl), bz⟩
              ·replace H := hN H c162
               have c162b0 : (t910.toList == (t929 ++ (⟨#[78, 97, 78]⟩ : ByteArray)).toList) = false := beq_eq_false_iff_ne.mpr c162
               have c162b1 : (t910.toList != (t929 ++ (⟨#[78, 97, 78]⟩ : ByteArray)).toList) = true := bne_iff_ne.mpr c162
               obtain rfl := Option.some.inj H
               obtain ⟨hcz168_0, hcz168_1, hcz168_2, hcz168_3, hcz168_4, hcz168_5, hcz168_6, hcz168_7, hfz168_0, hfz168_1, hfz168_2, hfz168_3, hfz168_4, hfz168_5, hfz168_6, hfz168_7⟩ := cz8 (W := wc) BK903
               go_wp2_with (first | ((with_reducible refine gate_callee (f := 27) rfl ?_); refine goesL_ (some 83) rfl rfl Tryz.func27 (by kernel_rfl) rfl #[.int .u8 32, .int .i64 (ji148 - 3)] rfl (by (try simp only [List.map_toArray, List.map_cons, List.map_nil]); first | done | (simp only [hji148]; rfl) | rfl | (simp only [List.length_drop, List.length_take]; rfl)) ?_; (with_reducible refine (buf_Fill.calls 32 (ji148 - 3) t929 _ A149.out).mono ?_); rintro e w169 ⟨rfl, hb⟩; refine ⟨_, rfl, ?_⟩; replace BK903 := kN (g := gb903) (cs := #[.bool false, .bool false, .bool a2_2, .bool false, .bool a2_4, .int .i64 a2_5, .int .i64 a2_6, .int .i32 a2_7]) hb bk; replace HB := bN bz hb; (try clear hb); (try clear hb2); (try clear hk); (try clear hi); obtain ⟨hcz170_0, hcz170_1, hcz170_2, hcz170_3, hcz170_4, hcz170_5, hcz170_6, hcz170_7, hfz170_0, hfz170_1, hfz170_2, hfz170_3, hfz170_4, hfz170_5, hfz170_6, hfz170_7⟩ := cz8 (W := w169) BK903))
               go_ret
               exact ⟨by first | rfl | (simp [errW_none, errW_some] <;> rfl) | (simp only [← hji147, ← hji148]; first | rfl | (simp [errW_none, errW_some] <;> rfl)) | (simp [*, errW_none, errW_some] <;> rfl), bz⟩
             ·replace H := hN H c161
              exact absurd H (by simp)
  ·replace c14 := Bool.eq_false_iff.mpr c14
   subst c14
   replace H := hF H
   by_cases c171 : t910.toList = ([] : List UInt8)
   ·replace H := hE H c171
    have c171b0 : (t910.toList == ([] : List UInt8)) = true := beq_iff_eq.mpr c171
    have c171b1 : (t910.toList != ([] : List UInt8)) = false := bne_eq_false_iff_eq.mpr c171
    have c171b7 : t910.toList.isEmpty = true := by simpa using c171b0
    clear c171
    replace H := bs H
    obtain ⟨t912, A172, H⟩ := H
    by_cases c173 : t912 = true
    ·subst c173
     replace H := hT H
     obtain rfl := Option.some.inj H
     obtain ⟨hcz174_0, hcz174_1, hcz174_2, hcz174_3, hcz174_4, hcz174_5, hcz174_6, hcz174_7, hfz174_0, hfz174_1, hfz174_2, hfz174_3, hfz174_4, hfz174_5, hfz174_6, hfz174_7⟩ := cz8 (W := w13) BK903
     go_wp2_with (first | (go_at_call 26; (with_reducible refine (platenref06_Verb.calls a2_7 true _ A172.out).mono ?_); rintro e w175 ⟨rfl, hb⟩; replace BK903 := kN (g := gb903) (cs := #[.bool a2_0, .bool a2_1, .bool a2_2, .bool a2_3, .bool a2_4, .int .i64 a2_5, .int .i64 a2_6, .int .i32 a2_7]) hb bk; replace HB := bN bz hb; (try clear hb); (try clear hb2); (try clear hk); (try clear hi)))
     go_ret
     exact ⟨ez, bz⟩
    ·replace c173 := Bool.eq_false_iff.mpr c173
     subst c173
     replace H := hF H
     replace H := bs H
     obtain ⟨t913, A176, H⟩ := H
     obtain rfl := Option.some.inj H
     obtain ⟨hcz177_0, hcz177_1, hcz177_2, hcz177_3, hcz177_4, hcz177_5, hcz177_6, hcz177_7, hfz177_0, hfz177_1, hfz177_2, hfz177_3, hfz177_4, hfz177_5, hfz177_6, hfz177_7⟩ := cz8 (W := w13) BK903
     go_wp2_with (first | (go_at_call 26; (with_reducible refine (platenref06_Verb.calls a2_7 false _ A172.out).mono ?_); rintro e w178 ⟨rfl, hb⟩; replace BK903 := kN (g := gb903) (cs := #[.bool a2_0, .bool a2_1, .bool a2_2, .bool a2_3, .bool a2_4, .int .i64 a2_5, .int .i64 a2_6, .int .i32 a2_7]) hb bk; replace HB := bN bz hb; (try clear hb); (try clear hb2); (try clear hk); (try clear hi)) | (go_at_call 23; (with_reducible refine (platenlaw06_lives.calls k  t913 _ A176.out).mono ?_); rintro e w179 ⟨rfl, hb⟩; replace BK903 := kN (g := gb903) (cs := #[.bool a2_0, .bool a2_1, .bool a2_2, .bool a2_3, .bool a2_4, .int .i64 a2_5, .int .i64 a2_6, .int .i32 a2_7]) hb bk; replace HB := bN bz hb; (try clear hb); (try clear hb2); (try clear hk); (try clear hi)))
     go_ret
     exact ⟨ez, bz⟩
   ·replace H := hN H c171
    have c171b0 : (t910.toList == ([] : List UInt8)) = false := beq_eq_false_iff_ne.mpr c171
    have c171b1 : (t910.toList != ([] : List UInt8)) = true := bne_iff_ne.mpr c171
    have c171b7 : t910.toList.isEmpty = false := by simpa using c171b0
    obtain rfl := Option.some.inj H
    go_wp2
    go_ret
    exact ⟨ez, bz⟩
end Go.Proofs.YtecpgdfnamkfdaaGreatDoor.Fn
end
section
namespace Go.Proofs.YtecpgdfnamkfdaaGreatDoor.Pure
open Go.RowKit Go.Proofs.YtecpgdfnamkfdaaGreatDoorW.PrintWords Go.Proofs.YtecpgdfnamkfdaaGreatDoorW.PrintLast Go.Proofs.YtecpgdfnamkfdaaGreatDoorW.PrintMore Go.Proofs.YtecpgdfnamkfdaaGreatDoor.Fn
set_option linter.unusedVariables false
set_option linter.unusedSimpArgs false
theorem odd_fin {T : List UInt8} {B : ByteArray} (hB : B = S T) {c : Nat} (hc : c = T.length) (hT : T.length ≤ 4) (minus : Bool) (wid : Int) {n : Int} (hn : n = max 0 (min wid 1000) - (T.length : Int)) :
    Ev (fun k => (buf_Fill.f 32 n).bind fun t => (if minus = true then (if c + t.size ≤ 9223372036854775807 then (if (S (padL T minus false wid)).toList = (B ++ t).toList then ((platenlaw06_lives.f k).bind fun u => (some u)) else (some false)) else (none)) else (if t.size + c ≤ 9223372036854775807 then (if (S (padL T minus false wid)).toList = (t ++ B).toList then ((platenlaw06_lives.f k).bind fun u => (some u)) else (some false)) else (none)))) true := by
  subst hB hc
  have hf := fill_eq 32 n
  rw [show (((32 : UInt8).toNat : Nat) : Int) = 32 from rfl, show min n 1000 = n by omega] at hf
  rw [hf]
  simp only [Option.bind_some]
  cases minus with
  | true =>
    refine Ev.congr (fun k => if_pos rfl) ?_
    refine Ev.congr (fun k => if_pos (by rw [size_S, List.length_replicate]; omega)) ?_
    refine Ev.congr (fun k => if_pos (by rw [S_app2]; unfold padL; rw [if_pos rfl, hn])) ?_
    exact livesEnd6
  | false =>
    refine Ev.congr (fun k => if_neg (by simp)) ?_
    refine Ev.congr (fun k => if_pos (by rw [size_S, List.length_replicate]; omega)) ?_
    refine Ev.congr (fun k => if_pos (by rw [S_app2]; unfold padL; rw [if_neg (by simp), if_neg (by simp), hn])) ?_
    exact livesEnd6
theorem odd_inf (x14 : ByteArray) (plus minus sharp space zero : Bool) (wid prec v : Int) (u : Bool) (hu : u = (space && !plus)) :
    Ev (fun k => platenlaw06_FloatsOdd.j1 k 1 (S (endL (signL false 1 plus space) [73, 110, 102] minus false wid)) x14 u plus minus sharp space zero wid prec v) true := by
  subst hu
  refine Ev.step (fun k => by simp only [platenlaw06_FloatsOdd.j1]; rfl) ?_
  cases plus with
  | true =>
    refine Ev.congr (fun k => if_neg (by simp)) ?_
    refine Ev.congr (fun k => if_pos (by first | rfl | trivial)) ?_
    exact odd_fin (T := [43, 73, 110, 102]) rfl rfl (by decide) minus wid (by rw [mx_eq, mn_eq]; rfl)
  | false =>
    cases space with
    | true =>
      refine Ev.congr (fun k => if_pos rfl) ?_
      exact odd_fin (T := [32, 73, 110, 102]) rfl rfl (by decide) minus wid (by rw [mx_eq, mn_eq]; rfl)
    | false =>
      refine Ev.congr (fun k => if_neg (by simp)) ?_
      refine Ev.congr (fun k => if_pos (by first | rfl | trivial)) ?_
      exact odd_fin (T := [43, 73, 110, 102]) rfl rfl (by decide) minus wid (by rw [mx_eq, mn_eq]; rfl)
theorem odd_nan (neg plus minus sharp space zero : Bool) (wid prec v : Int) :
    Ev (fun k => platenlaw06_FloatsOdd.j1 k 2 (S (endL (signL neg 2 plus space) [78, 97, 78] minus false wid)) (⟨#[78, 97, 78]⟩ : ByteArray) false plus minus sharp space zero wid prec v) true := by
  have hs : signL neg 2 plus space = if plus then [43] else if space then [32] else [] := by
    unfold signL
    rw [if_neg (by simp)]
    cases plus <;> cases space <;> rfl
  rw [hs]
  refine Ev.step (fun k => by simp only [platenlaw06_FloatsOdd.j1]; rfl) ?_
  refine Ev.congr (fun k => if_neg (by simp)) ?_
  refine Ev.congr (fun k => if_neg (by decide)) ?_
  cases plus with
  | true =>
    refine Ev.congr (fun k => if_pos rfl) ?_
    exact odd_fin (T := [43, 78, 97, 78]) rfl rfl (by decide) minus wid (by rw [mx_eq, mn_eq]; rfl)
  | false =>
    refine Ev.congr (fun k => if_neg (by simp)) ?_
    cases space with
    | true =>
      refine Ev.congr (fun k => if_pos rfl) ?_
      exact odd_fin (T := [32, 78, 97, 78]) rfl rfl (by decide) minus wid (by rw [mx_eq, mn_eq]; rfl)
    | false =>
      refine Ev.congr (fun k => if_neg (by simp)) ?_
      refine odd_fin (T := [78, 97, 78]) rfl rfl (by decide) minus wid ?_
      rw [mx_eq, mn_eq]
      show wrap64 (max 0 (min wid 1000) - 3) = max 0 (min wid 1000) - 3
      exact w64 (by omega) (by omega)
theorem FloatsOdd : ∀ (a0 : Int) (a1 : Bool) (a2_0 : Bool) (a2_1 : Bool) (a2_2 : Bool) (a2_3 : Bool) (a2_4 : Bool) (a2_5 : Int) (a2_6 : Int) (a2_7 : Int), (Lit.int .u64 a0).wf = true → (Lit.int .i64 a2_5).wf = true → (Lit.int .i64 a2_6).wf = true → (Lit.int .i32 a2_7).wf = true → ∃ k, platenlaw06_FloatsOdd.f k a0 a1 a2_0 a2_1 a2_2 a2_3 a2_4 a2_5 a2_6 a2_7 = some true := by
  intro a0 wide plus minus sharp space zero wid prec v h0 _ _ _
  obtain ⟨a, rfl, ha⟩ := wf_u64 h0
  refine Ev.rounds (g := fun k => platenlaw06_FloatsOdd.f k (a : Int) wide plus minus sharp space zero wid prec v) ?_
  unfold platenlaw06_FloatsOdd.f
  rw [sized6]
  simp only [Option.bind_some]
  rw [parts_eq wide a ha]
  simp only [Option.bind_some]
  by_cases c : bareN wide a < ii wide
  · have e1 : (partsS wide a).2.2.2 = 0 := by unfold partsS; rw [if_pos c]
    exact Ev.congr (fun k => if_pos e1) livesEnd6
  · have ep : partsS wide a = ((a / tt wide % 2 == 1 : Bool), 0, 0, if bareN wide a = ii wide then 1 else 2) := by unfold partsS; rw [if_neg c]
    have f1 := float_ev wide ha plus minus sharp space zero wid prec v
    have hk0 : (partsS wide a).2.2.2 ≠ 0 := by
      rw [ep]
      show (if bareN wide a = ii wide then (1 : Int) else 2) ≠ 0
      split <;> decide
    refine Ev.congr (fun k => if_neg hk0) ?_
    rw [ep]
    unfold floatS at f1
    by_cases hv : codeV v = 0
    · rw [if_pos hv] at f1
      refine Ev.bind f1 ?_
      refine Ev.congr (fun k => if_neg (by simp)) ?_
      have he : (⟨#[]⟩ : ByteArray).toList = ([] : List UInt8) := (empty_iff []).2 rfl
      refine Ev.congr (fun k => if_pos he) ?_
      have hvb : platenref06_Verb.f v = some false := by
        have hn : ¬ (v = 118 ∨ v = 101 ∨ v = 69 ∨ v = 102 ∨ v = 70 ∨ v = 103 ∨ v = 71 ∨ v = 98 ∨ v = 120 ∨ v = 88) := by
          intro h
          rcases h with rfl | rfl | rfl | rfl | rfl | rfl | rfl | rfl | rfl | rfl
          all_goals exact absurd hv (by decide)
        unfold platenref06_Verb.f isVerb
        rw [decide_eq_false hn]
      rw [hvb]
      simp only [Option.bind_some]
      exact Ev.congr (fun k => if_neg (by simp)) livesEnd6
    · rw [if_neg hv, if_neg c] at f1
      by_cases c2 : bareN wide a = ii wide
      · rw [if_pos c2] at f1 ⊢
        refine Ev.bind f1 ?_
        refine Ev.congr (fun k => if_pos rfl) ?_
        refine Ev.congr (fun k => if_pos rfl) ?_
        dsimp only
        generalize (a / tt wide % 2 == 1 : Bool) = neg
        refine Ev.step (fun k => by simp only [platenlaw06_FloatsOdd.j0]; rfl) ?_
        cases neg with
        | true =>
          refine Ev.congr (fun k => if_pos rfl) ?_
          exact odd_fin (T := [45, 73, 110, 102]) rfl rfl (by decide) minus wid (by rw [mx_eq, mn_eq]; rfl)
        | false =>
          refine Ev.congr (fun k => if_neg (by simp)) ?_
          refine Ev.congr (fun k => if_pos (by first | rfl | trivial)) ?_
          cases space with
          | true => exact Ev.congr (fun k => if_pos rfl) (odd_inf _ plus minus sharp true zero wid prec v _ (by simp))
          | false => exact Ev.congr (fun k => if_neg (by simp)) (odd_inf _ plus minus sharp false zero wid prec v _ (by simp))
      · rw [if_neg c2] at f1 ⊢
        refine Ev.bind f1 ?_
        refine Ev.congr (fun k => if_pos rfl) ?_
        dsimp only
        refine Ev.congr (fun k => if_neg (by decide)) ?_
        refine Ev.step (fun k => by simp only [platenlaw06_FloatsOdd.j0]; rfl) ?_
        refine Ev.congr (fun k => if_neg (by simp)) ?_
        refine Ev.congr (fun k => if_neg (by decide)) ?_
        exact odd_nan _ plus minus sharp space zero wid prec v
end Go.Proofs.YtecpgdfnamkfdaaGreatDoor.Pure
end
