/- The law FloatsSigns: the walks through its functions and its plain law (part 7). Own texts and the kit's printed words for this seat, without what the law does not use: put together by merge.py (of this work). -/
import Derived.Test.YtecpgdfnamkfdaaGreatDoorMFloatsSigns6
import Derived.Handy
section
namespace Go.Proofs.YtecpgdfnamkfdaaGreatDoor.Pure
open Go.RowKit Go.Proofs.YtecpgdfnamkfdaaGreatDoorW.PrintWords Go.Proofs.YtecpgdfnamkfdaaGreatDoorW.PrintLast Go.Proofs.YtecpgdfnamkfdaaGreatDoorW.PrintMore Go.Proofs.YtecpgdfnamkfdaaGreatDoor.Fn
set_option linter.unusedVariables false
set_option linter.unusedSimpArgs false
def codeV (v : Int) : Int := if v = 101 ∨ v = 69 then 1 else if v = 102 ∨ v = 70 then 2 else if v = 103 ∨ v = 71 ∨ v = 118 then 3 else if v = 98 then 4 else if v = 120 ∨ v = 88 then 5 else 0
theorem chosen_at (v : Int) (k : Nat) : floats_chosen.f (k + 3) v = some (codeV v) := by
  unfold codeV floats_chosen.f
  simp only [floats_chosen.j0, floats_chosen.j1, floats_chosen.j2]
  by_cases d1 : v = 101
  · subst d1; rfl
  by_cases d2 : v = 69
  · subst d2; rfl
  by_cases d3 : v = 102
  · subst d3; rfl
  by_cases d4 : v = 70
  · subst d4; rfl
  by_cases d5 : v = 103
  · subst d5; rfl
  by_cases d6 : v = 71
  · subst d6; rfl
  by_cases d7 : v = 118
  · subst d7; rfl
  by_cases d8 : v = 98
  · subst d8; rfl
  by_cases d9 : v = 120
  · subst d9; rfl
  by_cases d10 : v = 88
  · subst d10; rfl
  simp [d1, d2, d3, d4, d5, d6, d7, d8, d9, d10]
theorem chosen_ev (v : Int) : Ev (fun k => floats_chosen.f k v) (codeV v) :=
  ⟨3, fun k hk => by obtain ⟨j, rfl⟩ : ∃ j, k = j + 3 := ⟨k - 3, by omega⟩; exact chosen_at v j⟩
theorem codeV_le (v : Int) : 0 ≤ codeV v ∧ codeV v ≤ 5 := by
  unfold codeV
  repeat' split
  all_goals decide
def signL (neg : Bool) (kind : Int) (plus space : Bool) : List UInt8 := if neg = true ∧ kind ≠ 2 then [45] else if plus then [43] else if space then [32] else if kind = 1 then [43] else []
theorem signL_ok (neg : Bool) (kind : Int) (plus space : Bool) : (signL neg kind plus space).length ≤ 1 ∧ Asc (signL neg kind plus space) := by
  unfold signL
  repeat' split
  all_goals exact ⟨by decide, by decide⟩
def clamp (prec : Int) : Int := max (-1) (min prec 1000)
theorem clamp_ok (prec : Int) : -1 ≤ clamp prec ∧ clamp prec ≤ 1000 := by unfold clamp; omega
def restL (wide : Bool) (p m : Nat) (e prec v : Int) (sharp : Bool) : List UInt8 :=
  if codeV v = 1 then scaledL (sharp && v != 118) (bigV v) (exD m e) (six prec)
  else if codeV v = 2 then fixedL (sharp && v != 118) (exD m e) (six prec)
  else if codeV v = 3 then genOf wide p m e prec (sharp && v != 118) (bigV v)
  else if codeV v = 4 then binL m e
  else hexL m e prec (sharp && v != 118) (v == 88)
def Fit (l : List UInt8) : Prop := Asc l ∧ l.length ≤ 100000
theorem sci_fit {l : List UInt8} (h : Asc l) (hl : l.length ≤ 50000) (dot big : Bool) (e : Int) : Fit (sciL dot big l e) := by
  refine ⟨sciL_asc h dot big e, ?_⟩
  have h1 := ptL_len dot (l.take 1) (l.drop 1)
  have h2 := powL_len (eMark big) (e := e) (least := 2) (by decide)
  have hm : (eMark big).length = 1 := by cases big <;> rfl
  rw [List.length_take, List.length_drop] at h1
  unfold sciL
  rw [List.length_append]
  omega
theorem around_fit {l : List UInt8} (h : Asc l) (hl : l.length ≤ 20000) (dot : Bool) {p : Int} (hp : -20000 ≤ p ∧ p ≤ 20000) : Fit (aroundL dot l p) := by
  refine ⟨aroundL_asc h dot p, ?_⟩
  have hf := fillL_len l p
  unfold aroundL
  split
  · have h1 := ptL_len dot [48] (zsL (-p).toNat ++ l)
    rw [List.length_append, zsL_len] at h1
    simp at h1
    omega
  · have h1 := ptL_len dot ((fillL l p).take p.toNat) ((fillL l p).drop p.toNat)
    rw [List.length_take, List.length_drop] at h1
    omega
theorem scaled_fit {v : List UInt8 × Int} (h : Near v) (dot big : Bool) {p : Int} (hp : 0 ≤ p ∧ p ≤ 1000) : Fit (scaledL dot big v p) := by
  have hb := round_bound h (p + 1)
  have hf := fillL_len (roundN v.1 v.2 (p + 1)).1 (p + 1)
  exact sci_fit (fillL_asc (round_form h.form (p + 1)).1.asc _) (by omega) dot big _
theorem fixed_fit {v : List UInt8 × Int} (h : Near v) (dot : Bool) {p : Int} (hp : 0 ≤ p ∧ p ≤ 1000) : Fit (fixedL dot v p) := by
  have hb := round_bound h (v.2 + p)
  have ha := (round_form h.form (v.2 + p)).1.asc
  unfold fixedL
  generalize roundN v.1 v.2 (v.2 + p) = d at *
  split
  · refine ⟨ptL_asc (by decide) (zsL_asc _) dot, ?_⟩
    have h1 := ptL_len dot [48] (zsL p.toNat)
    rw [zsL_len] at h1
    simp at h1
    omega
  · split
    · refine ⟨ptL_asc (by decide) (fillL_asc ((zsL_asc _).app ha) _) dot, ?_⟩
      have h1 := ptL_len dot [48] (fillL (zsL (-d.2).toNat ++ d.1) p)
      have hf := fillL_len (zsL (-d.2).toNat ++ d.1) p
      rw [List.length_append, zsL_len] at hf
      simp at h1
      omega
    · have hf := fillL_len d.1 (d.2 + p)
      exact around_fit (fillL_asc ha _) (by omega) dot (by omega)
theorem gen_fit {d : List UInt8 × Int} (ha : Asc d.1) (hd : d.1.length ≤ 2000 ∧ -4000 ≤ d.2 ∧ d.2 ≤ 1500) (dot big : Bool) {keep top : Int} (hk : 1 ≤ keep ∧ keep ≤ 1000) : Fit (genL dot big d keep top) := by
  have hfb := firstL_bound (d := d) hd.2
  unfold genL
  dsimp only
  have hl : Asc (if d.1 = [] then [48] else d.1) ∧ (if d.1 = [] then ([48] : List UInt8) else d.1).length ≤ 2000 := by
    split
    · exact ⟨by decide, by decide⟩
    · exact ⟨ha, hd.1⟩
  generalize (if d.1 = [] then ([48] : List UInt8) else d.1) = l at *
  have hm : Asc (if dot = true then fillL l keep else l) ∧ (if dot = true then fillL l keep else l).length ≤ 3000 := by
    have hf := fillL_len l keep
    split
    · exact ⟨fillL_asc hl.1 _, by omega⟩
    · exact ⟨hl.1, by omega⟩
  split
  · exact sci_fit hm.1 (by omega) dot big _
  · exact around_fit hm.1 (by omega) dot (by omega)
theorem shortL_ok (wide : Bool) {p : Nat} (hp : p < ii wide) : InForm (shortL wide p).1 (shortL wide p).2 ∧ (shortL wide p).1.length ≤ 2000 ∧ -4000 ≤ (shortL wide p).2 ∧ (shortL wide p).2 ≤ 1500 := by
  unfold shortL
  by_cases c : p = 0
  · rw [if_pos c]; exact ⟨⟨AllD.nil, fun c t e => (by cases e), rfl, fun _ => rfl⟩, by decide, by decide, by decide⟩
  · rw [if_neg c]
    obtain ⟨M, h1, h2, h3⟩ := short_spec wide p
    have hv := exV_val wide hp
    have hl := hv.len
    have hlo := hv.lo
    have hhi := hv.hi
    rcases best_some h2 with ⟨_, e⟩ | ⟨hn, u, hu, e, _⟩
    · rw [e]; exact ⟨hv.form, by omega, by omega, by omega⟩
    · have hc := cU_lt hv M hn
      have hu1 : u < 10 ^ (M + 1) := by
        rw [Nat.pow_succ]
        have : 1 ≤ 10 ^ M := Nat.pow_pos (by decide)
        rcases hu with hu | hu <;> omega
      have hb := decOf_bound hu1 (cE (exV wide p) M)
      rw [e]
      unfold cE at hb ⊢
      exact ⟨inForm_decOf _ _, by omega, by omega, by omega⟩
theorem genOf_fit (wide : Bool) {p : Nat} (hp : p < ii wide) {m : Nat} (hm : m < 18446744073709551616) {e : Int} (h : -1200 ≤ e ∧ e ≤ 1200) {prec : Int} (hq : -1 ≤ prec ∧ prec ≤ 1000) (dot big : Bool) : Fit (genOf wide p m e prec dot big) := by
  unfold genOf
  split
  · have := shortL_ok wide hp
    exact gen_fit this.1.1.asc this.2 dot big (by decide)
  · have hn := exD_near hm h
    have hb := round_bound hn (max prec 1)
    exact gen_fit (round_form hn.form _).1.asc (by omega) dot big (by omega)
theorem bin_fit (m : Nat) (e : Int) : Fit (binL m e) := by
  refine ⟨(bT_asc (by decide) m).app (powL_asc (by decide) e 1), ?_⟩
  have h1 := bT_len 10 m
  have h2 := powL_len ([112] : List UInt8) (e := e) (least := 1) (by decide)
  unfold binL
  rw [List.length_append]
  simp at h2
  omega
set_option maxRecDepth 100000 in
theorem upper_asc (b : UInt8) (h : b.toNat < 128) : (Lib.upperB b).toNat < 128 := by
  have key : ∀ n : Fin 256, n.val < 128 → (Lib.upperB (UInt8.ofNat n.val)).toNat < 128 := by decide
  have := key ⟨b.toNat, b.toNat_lt⟩ h
  rwa [UInt8.ofNat_toNat] at this
theorem hexEnd_fit {lead ds : List UInt8} (hl : lead.length ≤ 10 ∧ Asc lead) (hd : ds.length ≤ 2000 ∧ Asc ds) (dot up : Bool) (x : Int) : Fit (hexEnd dot up lead ds x) := by
  have h1 := ptL_len dot lead ds
  have h2 := powL_len ([112] : List UInt8) (e := x) (least := 2) (by decide)
  have ha : Asc ([48, 120] ++ (ptL dot lead ds ++ powL [112] x 2)) := Asc.app (by decide) ((ptL_asc hl.2 hd.2 dot).app (powL_asc (by decide) x 2))
  have hlen : ([48, 120] ++ (ptL dot lead ds ++ powL [112] x 2)).length ≤ 100000 := by simp at h2 ⊢; omega
  unfold hexEnd
  split
  · refine ⟨fun c hc => ?_, by unfold Lib.toUpperA; rw [List.length_map]; exact hlen⟩
    unfold Lib.toUpperA at hc
    obtain ⟨b, hb, rfl⟩ := List.mem_map.1 hc
    exact upper_asc b (ha b hb)
  · exact ⟨ha, hlen⟩
theorem hexTail_fit (dot up : Bool) {lead : List UInt8} (hl : lead.length ≤ 10 ∧ Asc lead) {part : Nat} (hp : part ≤ 18446744073709551615) (x : Int) {prec : Int} (hq : -1 ≤ prec ∧ prec ≤ 1000) : Fit (hexTail dot up lead part x prec) := by
  have hs := sixL_len hp
  unfold hexTail
  split
  · exact hexEnd_fit hl ⟨by have := rz_len (sixL part); omega, rz_asc (six_asc _)⟩ dot up x
  · split
    · have hf := fillL_len (sixL part) prec
      exact hexEnd_fit hl ⟨by omega, fillL_asc (six_asc _) _⟩ dot up x
    · unfold hexMid
      dsimp only
      refine hexEnd_fit hl ?_ dot up _
      split
      · exact ⟨by decide, Asc.nil⟩
      · refine ⟨?_, (six_asc _).take _⟩
        rw [List.length_take]
        omega
theorem hex_fit (m : Nat) (e : Int) {prec : Int} (hq : -1 ≤ prec ∧ prec ≤ 1000) (dot up : Bool) : Fit (hexL m e prec dot up) := by
  unfold hexL
  split
  · exact hexTail_fit dot up ⟨by decide, by decide⟩ (by decide) _ hq
  · exact hexTail_fit dot up ⟨by decide, by decide⟩ (by omega) _ hq
theorem six_ok {prec : Int} (hq : -1 ≤ prec ∧ prec ≤ 1000) : 0 ≤ six prec ∧ six prec ≤ 1000 := by unfold six; split <;> omega
theorem rest_fit (wide : Bool) {p : Nat} (hp : p < ii wide) {m : Nat} (hm : m < 18446744073709551616) {e : Int} (h : -1200 ≤ e ∧ e ≤ 1200) {prec : Int} (hq : -1 ≤ prec ∧ prec ≤ 1000) (v : Int) (sharp : Bool) : Fit (restL wide p m e prec v sharp) := by
  have hn := exD_near hm h
  unfold restL
  repeat' split
  · exact scaled_fit hn _ _ (six_ok hq)
  · exact fixed_fit hn _ (six_ok hq)
  · exact genOf_fit wide hp hm h hq _ _
  · exact bin_fit m e
  · exact hex_fit m e hq _ _
def endL (sign rest : List UInt8) (minus zero : Bool) (wid : Int) : List UInt8 :=
  padL (sign ++ (if zero && !minus then List.replicate (max 0 (min wid 1000) - sign.length - rest.length).toNat 48 ++ rest else rest)) minus false wid
theorem end_ev {sign rest : List UInt8} (hs : sign.length ≤ 1 ∧ Asc sign) (hr : Fit rest) (plus minus sharp space zero : Bool) (wid prec v : Int) :
    Ev (fun k => floats_Float.j3 k (S sign) (S rest) plus minus sharp space zero wid prec v) (S (endL sign rest minus zero wid), true) := by
  have ha := hr.1
  have hl := hr.2
  have key : ∀ u : Bool, Ev (fun k => floats_Float.j4 k (S sign) (S rest) u plus minus sharp space zero wid prec v) (S (padL (sign ++ (if u then List.replicate (max 0 (min wid 1000) - sign.length - rest.length).toNat 48 ++ rest else rest)) minus false wid), true) := by
    intro u
    refine Ev.step (fun k => by simp only [floats_Float.j4]; rfl) ?_
    cases u with
    | true =>
      refine Ev.congr (fun k => if_pos rfl) ?_
      rw [if_pos rfl, size_S, size_S, mx_eq, mn_eq, w64 (x := max 0 (min wid 1000) - (sign.length : Int)) (by omega) (by omega), w64 (by omega) (by omega)]
      have hf := fill_eq 48 (max 0 (min wid 1000) - (sign.length : Int) - (rest.length : Int))
      rw [show (((48 : UInt8).toNat : Nat) : Int) = 48 from rfl, show (min (max 0 (min wid 1000) - (sign.length : Int) - (rest.length : Int)) 1000).toNat = (max 0 (min wid 1000) - (sign.length : Int) - (rest.length : Int)).toNat by omega] at hf
      rw [hf]
      simp only [Option.bind_some]
      generalize hz : (max 0 (min wid 1000) - (sign.length : Int) - (rest.length : Int)).toNat = n
      have hn : n ≤ 1000 := by omega
      refine Ev.congr (fun k => if_pos (by rw [size_S, List.length_replicate]; omega)) ?_
      rw [S_app2]
      refine Ev.congr (fun k => if_pos (by rw [size_S, List.length_append, List.length_replicate]; omega)) ?_
      rw [S_app2, pad_eq (hs.2.app ((Asc.rep n (by decide)).app ha)) (by rw [List.length_append, List.length_append, List.length_replicate]; omega)]
      exact Ev.now _
    | false =>
      refine Ev.congr (fun k => if_neg (by simp)) ?_
      show Ev _ (S (padL (sign ++ rest) minus false wid), true)
      refine Ev.congr (fun k => if_pos (by rw [size_S, size_S]; omega)) ?_
      rw [S_app2, pad_eq (hs.2.app ha) (by rw [List.length_append]; omega)]
      exact Ev.now _
  refine Ev.step (fun k => by simp only [floats_Float.j3]; rfl) ?_
  unfold endL
  cases zero with
  | true => exact Ev.congr (fun k => if_pos rfl) (key (!minus))
  | false => exact Ev.congr (fun k => if_neg (by simp)) (key false)
def floatS (wide : Bool) (a : Nat) (plus minus sharp space zero : Bool) (wid prec v : Int) : ByteArray × Bool :=
  if codeV v = 0 then (⟨#[]⟩, false)
  else if bareN wide a < ii wide then (S (endL (signL (a / tt wide % 2 == 1) 0 plus space) (restL wide (bareN wide a) (fM (ff wide) (bareN wide a)) ((fE (ff wide) (bareN wide a) : Int) - (ll wide : Int)) (clamp prec) v sharp) minus zero wid), true)
  else if bareN wide a = ii wide then (S (endL (signL (a / tt wide % 2 == 1) 1 plus space) [73, 110, 102] minus false wid), true)
  else (S (endL (signL (a / tt wide % 2 == 1) 2 plus space) [78, 97, 78] minus false wid), true)
theorem sign_ev {R : ByteArray × Bool} (x0 x1 x9 x10 x11 x12 : Int) (neg plus minus sharp space zero : Bool) (wid prec v : Int)
    (h : Ev (fun k => floats_Float.j2 k x0 x1 x9 x10 x11 x12 (S (signL neg x11 plus space)) plus minus sharp space zero wid prec v) R) (u : Bool) (hu : u = decide (neg = true ∧ x11 ≠ 2)) :
    Ev (fun k => floats_Float.j1 k x0 x1 x9 x10 x11 x12 (⟨#[]⟩ : ByteArray) u plus minus sharp space zero wid prec v) R := by
  unfold signL at h
  refine Ev.step (fun k => by simp only [floats_Float.j1]; rfl) ?_
  by_cases c : neg = true ∧ x11 ≠ 2
  · have : u = true := by rw [hu]; exact decide_eq_true c
    subst this
    rw [if_pos c] at h
    exact Ev.congr (fun k => if_pos rfl) h
  · have : u = false := by rw [hu]; exact decide_eq_false c
    subst this
    rw [if_neg c] at h
    refine Ev.congr (fun k => if_neg (by simp)) ?_
    cases plus with
    | true => exact Ev.congr (fun k => if_pos rfl) h
    | false =>
      refine Ev.congr (fun k => if_neg (by simp)) ?_
      cases space with
      | true => exact Ev.congr (fun k => if_pos rfl) h
      | false =>
        refine Ev.congr (fun k => if_neg (by simp)) ?_
        by_cases c1 : x11 = 1
        · rw [if_neg (by simp), if_neg (by simp), if_pos c1] at h
          exact Ev.congr (fun k => if_pos c1) h
        · rw [if_neg (by simp), if_neg (by simp), if_neg c1] at h
          exact Ev.congr (fun k => if_neg c1) h
theorem mxn_clamp (prec : Int) : mx (-1) (mn prec 1000) = clamp prec := by rw [mx_eq, mn_eq]; rfl
theorem rest_ev (wide : Bool) {a p : Nat} (ha : a < 18446744073709551616) (hb : bareN wide a = p) (hp : p < ii wide) {m : Nat} (hm : m < 18446744073709551616) {e : Int} (h : -1200 ≤ e ∧ e ≤ 1200) {sign : List UInt8} (hs : sign.length ≤ 1 ∧ Asc sign) (plus minus sharp space zero : Bool) (wid prec v : Int) (hc : codeV v ≠ 0) :
    Ev (fun k => floats_Float.j2 k (a : Int) (szB wide) (m : Int) e 0 (codeV v) (S sign) plus minus sharp space zero wid prec v) (S (endL sign (restL wide p m e (clamp prec) v sharp) minus zero wid), true) := by
  have hq := clamp_ok prec
  have hfit := rest_fit wide hp hm h hq v sharp
  have hend := end_ev hs hfit plus minus sharp space zero wid prec v
  have hsl := (shortL_ok wide hp).2
  have hcl := codeV_le v
  refine Ev.step (fun k => by simp only [floats_Float.j2]; rfl) ?_
  refine Ev.congr (fun k => if_neg (by decide)) ?_
  refine Ev.congr (fun k => if_neg (by decide)) ?_
  rw [mxn_clamp]
  have way : ∀ dot : Bool, dot = (sharp && v != 118) → Ev (fun k => if codeV v = 1 then ((floats_float_scaled.f k (a : Int) (szB wide) (m : Int) e (clamp prec) dot v).bind fun t456 => (floats_Float.j3 k (S sign) t456 plus minus sharp space zero wid prec v)) else (if codeV v = 2 then ((floats_float_fixed.f k (a : Int) (szB wide) (m : Int) e (clamp prec) dot v).bind fun t457 => (floats_Float.j3 k (S sign) t457 plus minus sharp space zero wid prec v)) else (if codeV v = 3 then ((floats_float_general.f k (a : Int) (szB wide) (m : Int) e (clamp prec) dot v).bind fun t458 => (floats_Float.j3 k (S sign) t458 plus minus sharp space zero wid prec v)) else (if codeV v = 4 then ((floats_float_binary.f (a : Int) (szB wide) (m : Int) e (clamp prec) dot v).bind fun t459 => (floats_Float.j3 k (S sign) t459 plus minus sharp space zero wid prec v)) else (if codeV v = 5 then ((floats_float_hex.f k (a : Int) (szB wide) (m : Int) e (clamp prec) dot v).bind fun t460 => (floats_Float.j3 k (S sign) t460 plus minus sharp space zero wid prec v)) else none)))))
      (S (endL sign (restL wide p m e (clamp prec) v sharp) minus zero wid), true) := by
    intro dot hd
    unfold restL at hend ⊢
    rw [← hd] at hend ⊢
    by_cases c1 : codeV v = 1
    · rw [if_pos c1] at hend ⊢
      exact Ev.congr (fun k => if_pos c1) (Ev.bind (scaled_ev _ _ hm h hq v dot) hend)
    · rw [if_neg c1] at hend ⊢
      refine Ev.congr (fun k => if_neg c1) ?_
      by_cases c2 : codeV v = 2
      · rw [if_pos c2] at hend ⊢
        exact Ev.congr (fun k => if_pos c2) (Ev.bind (fixed_ev _ _ hm h hq v dot) hend)
      · rw [if_neg c2] at hend ⊢
        refine Ev.congr (fun k => if_neg c2) ?_
        by_cases c3 : codeV v = 3
        · rw [if_pos c3] at hend ⊢
          exact Ev.congr (fun k => if_pos c3) (Ev.bind (gen_ev wide ha hb hp hsl hm h hq v dot) hend)
        · rw [if_neg c3] at hend ⊢
          refine Ev.congr (fun k => if_neg c3) ?_
          by_cases c4 : codeV v = 4
          · rw [if_pos c4] at hend ⊢
            refine Ev.congr (fun k => if_pos c4) ?_
            rw [binary_eq _ _ _ _ _ (by omega) (by omega)]
            exact hend
          · rw [if_neg c4] at hend ⊢
            refine Ev.congr (fun k => if_neg c4) ?_
            exact Ev.congr (fun k => if_pos (by omega)) (Ev.bind (hex_ev _ _ v dot hm h hq) hend)
  cases sharp with
  | true => exact Ev.congr (fun k => if_pos rfl) (way (v != 118) (by simp))
  | false => exact Ev.congr (fun k => if_neg (by simp)) (way false rfl)
theorem float_ev (wide : Bool) {a : Nat} (ha : a < 18446744073709551616) (plus minus sharp space zero : Bool) (wid prec v : Int) :
    Ev (fun k => floats_Float.f k (a : Int) (szB wide) plus minus sharp space zero wid prec v) (floatS wide a plus minus sharp space zero wid prec v) := by
  have hi := ii_lt wide
  unfold floats_Float.f floatS
  rw [parts_eq wide a ha]
  simp only [Option.bind_some]
  refine Ev.bind (chosen_ev v) ?_
  have hk : ∀ x : Int, x = (partsS wide a).2.2.2 → x ≠ 3 := by
    intro x hx
    rw [hx]
    unfold partsS
    split
    · exact (by decide : (0 : Int) ≠ 3)
    · dsimp only; split <;> decide
  refine Ev.congr (fun k => if_neg (hk _ rfl)) ?_
  refine Ev.step (fun k => by simp only [floats_Float.j0]; rfl) ?_
  by_cases c0 : codeV v = 0
  · rw [if_pos c0]
    exact Ev.congr (fun k => if_pos (beq_iff_eq.mpr c0)) (Ev.now _)
  · rw [if_neg c0]
    refine Ev.congr (fun k => if_neg (by rw [beq_eq_false_iff_ne.mpr c0]; simp)) ?_
    have signs : ∀ {R : ByteArray × Bool} (x9 x10 x11 : Int) (neg : Bool), Ev (fun k => floats_Float.j2 k (a : Int) (szB wide) x9 x10 x11 (codeV v) (S (signL neg x11 plus space)) plus minus sharp space zero wid prec v) R →
        Ev (fun k => if neg = true then (floats_Float.j1 k (a : Int) (szB wide) x9 x10 x11 (codeV v) (⟨#[]⟩ : ByteArray) (x11 != 2) plus minus sharp space zero wid prec v) else (floats_Float.j1 k (a : Int) (szB wide) x9 x10 x11 (codeV v) (⟨#[]⟩ : ByteArray) false plus minus sharp space zero wid prec v)) R := by
      intro R x9 x10 x11 neg h
      cases neg with
      | true => exact Ev.congr (fun k => if_pos rfl) (sign_ev _ _ _ _ _ _ true plus minus sharp space zero wid prec v h _ (by rw [Bool.eq_iff_iff]; simp))
      | false => exact Ev.congr (fun k => if_neg (by simp)) (sign_ev _ _ _ _ _ _ false plus minus sharp space zero wid prec v h _ (by rw [Bool.eq_iff_iff]; simp))
    by_cases c1 : bareN wide a < ii wide
    · rw [if_pos c1]
      have hb := fEl wide (Nat.le_of_lt c1)
      have hb2 := fE_le wide (Nat.le_of_lt c1)
      have e1 : partsS wide a = ((a / tt wide % 2 == 1 : Bool), (fM (ff wide) (bareN wide a) : Int), (fE (ff wide) (bareN wide a) : Int) - (ll wide : Int), 0) := by
        unfold partsS; rw [if_pos c1]
      rw [e1]
      exact signs _ _ _ _ (rest_ev (m := fM (ff wide) (bareN wide a)) (e := (fE (ff wide) (bareN wide a) : Int) - (ll wide : Int)) wide ha rfl c1 (by omega) (by omega) (signL_ok _ _ _ _) plus minus sharp space zero wid prec v c0)
    · rw [if_neg c1]
      have e1 : partsS wide a = ((a / tt wide % 2 == 1 : Bool), 0, 0, if bareN wide a = ii wide then 1 else 2) := by
        unfold partsS; rw [if_neg c1]
      rw [e1]
      by_cases c2 : bareN wide a = ii wide
      · rw [if_pos c2, if_pos c2]
        refine signs _ _ _ _ ?_
        refine Ev.step (fun k => by simp only [floats_Float.j2]; rfl) ?_
        refine Ev.congr (fun k => if_neg (by decide)) ?_
        refine Ev.congr (fun k => if_pos (by first | trivial | rfl)) ?_
        exact end_ev (rest := [73, 110, 102]) (signL_ok _ _ _ _) ⟨by decide, by decide⟩ plus minus sharp space false wid prec v
      · rw [if_neg c2, if_neg c2]
        refine signs _ _ _ _ ?_
        refine Ev.step (fun k => by simp only [floats_Float.j2]; rfl) ?_
        refine Ev.congr (fun k => if_pos (by first | trivial | rfl)) ?_
        exact end_ev (rest := [78, 97, 78]) (signL_ok _ _ _ _) ⟨by decide, by decide⟩ plus minus sharp space false wid prec v
end Go.Proofs.YtecpgdfnamkfdaaGreatDoor.Pure
end
section
namespace Go.Proofs.YtecpgdfnamkfdaaGreatDoor.Fn
open Go.RowKit Go.Proofs.YtecpgdfnamkfdaaGreatDoorW.PrintWords Go.Proofs.YtecpgdfnamkfdaaGreatDoorW.PrintLast Go.Proofs.YtecpgdfnamkfdaaGreatDoorW.PrintMore
attribute [local go_sem] fnW_0 fnW_1 fnW_2 fnW_3 fnW_4 fnW_5 fnW_guard fnW_eql max2_int min2_int max_two min_two
set_option linter.unusedVariables false
set_option linter.unusedSimpArgs false
def platenlaw06_lives.f (k : Nat)  : Option (Bool) := (platenlaw06_bare.f 101).bind fun bt820 => ((floats_Float.f k 4609434218613702656 64 bt820.1 bt820.2.1 bt820.2.2.1 bt820.2.2.2.1 bt820.2.2.2.2.1 bt820.2.2.2.2.2.1 bt820.2.2.2.2.2.2.1 bt820.2.2.2.2.2.2.2).bind fun bt828 => ((platenlaw06_bare.f 118).bind fun bt830 => ((floats_Float.f k 4591870180066957722 64 bt830.1 bt830.2.1 bt830.2.2.1 bt830.2.2.2.1 bt830.2.2.2.2.1 bt830.2.2.2.2.2.1 bt830.2.2.2.2.2.2.1 bt830.2.2.2.2.2.2.2).bind fun bt838 => ((platenlaw06_bare.f 100).bind fun bt840 => ((floats_Float.f k 0 64 bt840.1 bt840.2.1 bt840.2.2.1 bt840.2.2.2.1 bt840.2.2.2.2.1 bt840.2.2.2.2.2.1 bt840.2.2.2.2.2.2.1 bt840.2.2.2.2.2.2.2).bind fun bt848 => (if bt828.2 = true then (if bt838.2 = true then (if bt848.2 = true then (some false) else (if bt828.1.toList = ([49, 46, 53, 48, 48, 48, 48, 48, 101, 43, 48, 48] : List UInt8) then (some (bt838.1.toList == ([48, 46, 49] : List UInt8))) else (some false))) else (some false)) else (some false)))))))
set_option maxHeartbeats 8000000 in
set_option maxRecDepth 100000 in
theorem platenlaw06_lives.calls (k : Nat)  (r : Bool) (w : World) (h : platenlaw06_lives.f k  = some r) :
  Calls Tryz.prog 23 #[] w fun e w' => e = .returned (.bool r) ∧ Below w.heap.size w w' := by
 have HB := Aside0.mk (Below.refl w.heap.size w)
 have H : ((platenlaw06_bare.f 101).bind fun bt820 => ((floats_Float.f k 4609434218613702656 64 bt820.1 bt820.2.1 bt820.2.2.1 bt820.2.2.2.1 bt820.2.2.2.2.1 bt820.2.2.2.2.2.1 bt820.2.2.2.2.2.2.1 bt820.2.2.2.2.2.2.2).bind fun bt828 => ((platenlaw06_bare.f 118).bind fun bt830 => ((floats_Float.f k 4591870180066957722 64 bt830.1 bt830.2.1 bt830.2.2.1 bt830.2.2.2.1 bt830.2.2.2.2.1 bt830.2.2.2.2.2.1 bt830.2.2.2.2.2.2.1 bt830.2.2.2.2.2.2.2).bind fun bt838 => ((platenlaw06_bare.f 100).bind fun bt840 => ((floats_Float.f k 0 64 bt840.1 bt840.2.1 bt840.2.2.1 bt840.2.2.2.1 bt840.2.2.2.2.1 bt840.2.2.2.2.2.1 bt840.2.2.2.2.2.2.1 bt840.2.2.2.2.2.2.2).bind fun bt848 => (if bt828.2 = true then (if bt838.2 = true then (if bt848.2 = true then (some false) else (if bt828.1.toList = ([49, 46, 53, 48, 48, 48, 48, 48, 101, 43, 48, 48] : List UInt8) then (some (bt838.1.toList == ([48, 46, 49] : List UInt8))) else (some false))) else (some false)) else (some false)))))))) = some r := h
 clear h
 replace H := bs H
 obtain ⟨⟨t820, t821, t822, t823, t824, t825, t826, t827⟩, A1, H⟩ := H
 dsimp only at H
 replace H := bs H
 obtain ⟨⟨t828, t829⟩, A2, H⟩ := H
 dsimp only at H
 replace H := bs H
 obtain ⟨⟨t830, t831, t832, t833, t834, t835, t836, t837⟩, A3, H⟩ := H
 dsimp only at H
 replace H := bs H
 obtain ⟨⟨t838, t839⟩, A4, H⟩ := H
 dsimp only at H
 replace H := bs H
 obtain ⟨⟨t840, t841, t842, t843, t844, t845, t846, t847⟩, A5, H⟩ := H
 dsimp only at H
 replace H := bs H
 obtain ⟨⟨t848, t849⟩, A6, H⟩ := H
 dsimp only at H
 by_cases c7 : t829 = true
 ·subst c7
  replace H := hT H
  by_cases c8 : t839 = true
  ·subst c8
   replace H := hT H
   by_cases c9 : t849 = true
   ·subst c9
    replace H := hT H
    obtain rfl := Option.some.inj H
    go_enter Tryz.func23, Tryz.ntmps23
    go_wp2_with (first | ((with_reducible refine gate_callee (f := 30) rfl ?_); refine goesL_ (some 8) rfl rfl Tryz.func30 (by kernel_rfl) rfl #[.int .i32 101] rfl lz ?_; (with_reducible refine (platenlaw06_bare.calls 101 t820 t821 t822 t823 t824 t825 t826 t827 _ A1.out).mono ?_); rintro e w10 ⟨rfl, hb⟩; refine ⟨_, rfl, ?_⟩; replace HB := bN bz hb; (try clear hb); (try clear hb2); (try clear hk); (try clear hi)) | ((with_reducible refine gate_callee (f := 25) rfl ?_); refine goesL_ (some 9) rfl rfl Tryz.func25 (by kernel_rfl) rfl #[.int .u64 4609434218613702656, .int .i64 64, .agg #[.bool t820, .bool t821, .bool t822, .bool t823, .bool t824, .int .i64 t825, .int .i64 t826, .int .i32 t827]] rfl lz ?_; (with_reducible refine (floats_Float.calls k 4609434218613702656 64 t820 t821 t822 t823 t824 t825 t826 t827 t828 true _ A2.out).mono ?_); rintro e w11 ⟨rfl, hb⟩; refine ⟨_, rfl, ?_⟩; replace HB := bN bz hb; (try clear hb); (try clear hb2); (try clear hk); (try clear hi)) | ((with_reducible refine gate_callee (f := 30) rfl ?_); refine goesL_ (some 13) rfl rfl Tryz.func30 (by kernel_rfl) rfl #[.int .i32 118] rfl lz ?_; (with_reducible refine (platenlaw06_bare.calls 118 t830 t831 t832 t833 t834 t835 t836 t837 _ A3.out).mono ?_); rintro e w12 ⟨rfl, hb⟩; refine ⟨_, rfl, ?_⟩; replace HB := bN bz hb; (try clear hb); (try clear hb2); (try clear hk); (try clear hi)) | ((with_reducible refine gate_callee (f := 25) rfl ?_); refine goesL_ (some 14) rfl rfl Tryz.func25 (by kernel_rfl) rfl #[.int .u64 4591870180066957722, .int .i64 64, .agg #[.bool t830, .bool t831, .bool t832, .bool t833, .bool t834, .int .i64 t835, .int .i64 t836, .int .i32 t837]] rfl lz ?_; (with_reducible refine (floats_Float.calls k 4591870180066957722 64 t830 t831 t832 t833 t834 t835 t836 t837 t838 true _ A4.out).mono ?_); rintro e w13 ⟨rfl, hb⟩; refine ⟨_, rfl, ?_⟩; replace HB := bN bz hb; (try clear hb); (try clear hb2); (try clear hk); (try clear hi)) | ((with_reducible refine gate_callee (f := 30) rfl ?_); refine goesL_ (some 18) rfl rfl Tryz.func30 (by kernel_rfl) rfl #[.int .i32 100] rfl lz ?_; (with_reducible refine (platenlaw06_bare.calls 100 t840 t841 t842 t843 t844 t845 t846 t847 _ A5.out).mono ?_); rintro e w14 ⟨rfl, hb⟩; refine ⟨_, rfl, ?_⟩; replace HB := bN bz hb; (try clear hb); (try clear hb2); (try clear hk); (try clear hi)) | ((with_reducible refine gate_callee (f := 25) rfl ?_); refine goesL_ (some 19) rfl rfl Tryz.func25 (by kernel_rfl) rfl #[.int .u64 0, .int .i64 64, .agg #[.bool t840, .bool t841, .bool t842, .bool t843, .bool t844, .int .i64 t845, .int .i64 t846, .int .i32 t847]] rfl lz ?_; (with_reducible refine (floats_Float.calls k 0 64 t840 t841 t842 t843 t844 t845 t846 t847 t848 true _ A6.out).mono ?_); rintro e w15 ⟨rfl, hb⟩; refine ⟨_, rfl, ?_⟩; replace HB := bN bz hb; (try clear hb); (try clear hb2); (try clear hk); (try clear hi)))
    go_ret
    exact ⟨ez, bz⟩
   ·replace c9 := Bool.eq_false_iff.mpr c9
    subst c9
    replace H := hF H
    by_cases c16 : t828.toList = ([49, 46, 53, 48, 48, 48, 48, 48, 101, 43, 48, 48] : List UInt8)
    ·replace H := hE H c16
     have c16b0 : (t828.toList == ([49, 46, 53, 48, 48, 48, 48, 48, 101, 43, 48, 48] : List UInt8)) = true := beq_iff_eq.mpr c16
     have c16b1 : (t828.toList != ([49, 46, 53, 48, 48, 48, 48, 48, 101, 43, 48, 48] : List UInt8)) = false := bne_eq_false_iff_eq.mpr c16
     clear c16
     obtain rfl := Option.some.inj H
     go_enter Tryz.func23, Tryz.ntmps23
     go_wp2_with (first | ((with_reducible refine gate_callee (f := 30) rfl ?_); refine goesL_ (some 8) rfl rfl Tryz.func30 (by kernel_rfl) rfl #[.int .i32 101] rfl lz ?_; (with_reducible refine (platenlaw06_bare.calls 101 t820 t821 t822 t823 t824 t825 t826 t827 _ A1.out).mono ?_); rintro e w17 ⟨rfl, hb⟩; refine ⟨_, rfl, ?_⟩; replace HB := bN bz hb; (try clear hb); (try clear hb2); (try clear hk); (try clear hi)) | ((with_reducible refine gate_callee (f := 25) rfl ?_); refine goesL_ (some 9) rfl rfl Tryz.func25 (by kernel_rfl) rfl #[.int .u64 4609434218613702656, .int .i64 64, .agg #[.bool t820, .bool t821, .bool t822, .bool t823, .bool t824, .int .i64 t825, .int .i64 t826, .int .i32 t827]] rfl lz ?_; (with_reducible refine (floats_Float.calls k 4609434218613702656 64 t820 t821 t822 t823 t824 t825 t826 t827 t828 true _ A2.out).mono ?_); rintro e w18 ⟨rfl, hb⟩; refine ⟨_, rfl, ?_⟩; replace HB := bN bz hb; (try clear hb); (try clear hb2); (try clear hk); (try clear hi)) | ((with_reducible refine gate_callee (f := 30) rfl ?_); refine goesL_ (some 13) rfl rfl Tryz.func30 (by kernel_rfl) rfl #[.int .i32 118] rfl lz ?_; (with_reducible refine (platenlaw06_bare.calls 118 t830 t831 t832 t833 t834 t835 t836 t837 _ A3.out).mono ?_); rintro e w19 ⟨rfl, hb⟩; refine ⟨_, rfl, ?_⟩; replace HB := bN bz hb; (try clear hb); (try clear hb2); (try clear hk); (try clear hi)) | ((with_reducible refine gate_callee (f := 25) rfl ?_); refine goesL_ (some 14) rfl rfl Tryz.func25 (by kernel_rfl) rfl #[.int .u64 4591870180066957722, .int .i64 64, .agg #[.bool t830, .bool t831, .bool t832, .bool t833, .bool t834, .int .i64 t835, .int .i64 t836, .int .i32 t837]] rfl lz ?_; (with_reducible refine (floats_Float.calls k 4591870180066957722 64 t830 t831 t832 t833 t834 t835 t836 t837 t838 true _ A4.out).mono ?_); rintro e w20 ⟨rfl, hb⟩; refine ⟨_, rfl, ?_⟩; replace HB := bN bz hb; (try clear hb); (try clear hb2); (try clear hk); (try clear hi)) | ((with_reducible refine gate_callee (f := 30) rfl ?_); refine goesL_ (some 18) rfl rfl Tryz.func30 (by kernel_rfl) rfl #[.int .i32 100] rfl lz ?_; (with_reducible refine (platenlaw06_bare.calls 100 t840 t841 t842 t843 t844 t845 t846 t847 _ A5.out).mono ?_); rintro e w21 ⟨rfl, hb⟩; refine ⟨_, rfl, ?_⟩; replace HB := bN bz hb; (try clear hb); (try clear hb2); (try clear hk); (try clear hi)) | ((with_reducible refine gate_callee (f := 25) rfl ?_); refine goesL_ (some 19) rfl rfl Tryz.func25 (by kernel_rfl) rfl #[.int .u64 0, .int .i64 64, .agg #[.bool t840, .bool t841, .bool t842, .bool t843, .bool t844, .int .i64 t845, .int .i64 t846, .int .i32 t847]] rfl lz ?_; (with_reducible refine (floats_Float.calls k 0 64 t840 t841 t842 t843 t844 t845 t846 t847 t848 false _ A6.out).mono ?_); rintro e w22 ⟨rfl, hb⟩; refine ⟨_, rfl, ?_⟩; replace HB := bN bz hb; (try clear hb); (try clear hb2); (try clear hk); (try clear hi)))
     go_ret
     exact ⟨ez, bz⟩
    ·replace H := hN H c16
     have c16b0 : (t828.toList == ([49, 46, 53, 48, 48, 48, 48, 48, 101, 43, 48, 48] : List UInt8)) = false := beq_eq_false_iff_ne.mpr c16
     have c16b1 : (t828.toList != ([49, 46, 53, 48, 48, 48, 48, 48, 101, 43, 48, 48] : List UInt8)) = true := bne_iff_ne.mpr c16
     obtain rfl := Option.some.inj H
     go_enter Tryz.func23, Tryz.ntmps23
     go_wp2_with (first | ((with_reducible refine gate_callee (f := 30) rfl ?_); refine goesL_ (some 8) rfl rfl Tryz.func30 (by kernel_rfl) rfl #[.int .i32 101] rfl lz ?_; (with_reducible refine (platenlaw06_bare.calls 101 t820 t821 t822 t823 t824 t825 t826 t827 _ A1.out).mono ?_); rintro e w23 ⟨rfl, hb⟩; refine ⟨_, rfl, ?_⟩; replace HB := bN bz hb; (try clear hb); (try clear hb2); (try clear hk); (try clear hi)) | ((with_reducible refine gate_callee (f := 25) rfl ?_); refine goesL_ (some 9) rfl rfl Tryz.func25 (by kernel_rfl) rfl #[.int .u64 4609434218613702656, .int .i64 64, .agg #[.bool t820, .bool t821, .bool t822, .bool t823, .bool t824, .int .i64 t825, .int .i64 t826, .int .i32 t827]] rfl lz ?_; (with_reducible refine (floats_Float.calls k 4609434218613702656 64 t820 t821 t822 t823 t824 t825 t826 t827 t828 true _ A2.out).mono ?_); rintro e w24 ⟨rfl, hb⟩; refine ⟨_, rfl, ?_⟩; replace HB := bN bz hb; (try clear hb); (try clear hb2); (try clear hk); (try clear hi)) | ((with_reducible refine gate_callee (f := 30) rfl ?_); refine goesL_ (some 13) rfl rfl Tryz.func30 (by kernel_rfl) rfl #[.int .i32 118] rfl lz ?_; (with_reducible refine (platenlaw06_bare.calls 118 t830 t831 t832 t833 t834 t835 t836 t837 _ A3.out).mono ?_); rintro e w25 ⟨rfl, hb⟩; refine ⟨_, rfl, ?_⟩; replace HB := bN bz hb; (try clear hb); (try clear hb2); (try clear hk); (try clear hi)) | ((with_reducible refine gate_callee (f := 25) rfl ?_); refine goesL_ (some 14) rfl rfl Tryz.func25 (by kernel_rfl) rfl #[.int .u64 4591870180066957722, .int .i64 64, .agg #[.bool t830, .bool t831, .bool t832, .bool t833, .bool t834, .int .i64 t835, .int .i64 t836, .int .i32 t837]] rfl lz ?_; (with_reducible refine (floats_Float.calls k 4591870180066957722 64 t830 t831 t832 t833 t834 t835 t836 t837 t838 true _ A4.out).mono ?_); rintro e w26 ⟨rfl, hb⟩; refine ⟨_, rfl, ?_⟩; replace HB := bN bz hb; (try clear hb); (try clear hb2); (try clear hk); (try clear hi)) | ((with_reducible refine gate_callee (f := 30) rfl ?_); refine goesL_ (some 18) rfl rfl Tryz.func30 (by kernel_rfl) rfl #[.int .i32 100] rfl lz ?_; (with_reducible refine (platenlaw06_bare.calls 100 t840 t841 t842 t843 t844 t845 t846 t847 _ A5.out).mono ?_); rintro e w27 ⟨rfl, hb⟩; refine ⟨_, rfl, ?_⟩; replace HB := bN bz hb; (try clear hb); (try clear hb2); (try clear hk); (try clear hi)) | ((with_reducible refine gate_callee (f := 25) rfl ?_); refine goesL_ (some 19) rfl rfl Tryz.func25 (by kernel_rfl) rfl #[.int .u64 0, .int .i64 64, .agg #[.bool t840, .bool t841, .bool t842, .bool t843, .bool t844, .int .i64 t845, .int .i64 t846, .int .i32 t847]] rfl lz ?_; (with_reducible refine (floats_Float.calls k 0 64 t840 t841 t842 t843 t844 t845 t846 t847 t848 false _ A6.out).mono ?_); rintro e w28 ⟨rfl, hb⟩; refine ⟨_, rfl, ?_⟩; replace HB := bN bz hb; (try clear hb); (try clear hb2); (try clear hk); (try clear hi)))
     go_ret
     exact ⟨ez, bz⟩
  ·replace c8 := Bool.eq_false_iff.mpr c8
   subst c8
   replace H := hF H
   obtain rfl := Option.some.inj H
   go_enter Tryz.func23, Tryz.ntmps23
   go_wp2_with (first | ((with_reducible refine gate_callee (f := 30) rfl ?_); refine goesL_ (some 8) rfl rfl Tryz.func30 (by kernel_rfl) rfl #[.int .i32 101] rfl lz ?_; (with_reducible refine (platenlaw06_bare.calls 101 t820 t821 t822 t823 t824 t825 t826 t827 _ A1.out).mono ?_); rintro e w29 ⟨rfl, hb⟩; refine ⟨_, rfl, ?_⟩; replace HB := bN bz hb; (try clear hb); (try clear hb2); (try clear hk); (try clear hi)) | ((with_reducible refine gate_callee (f := 25) rfl ?_); refine goesL_ (some 9) rfl rfl Tryz.func25 (by kernel_rfl) rfl #[.int .u64 4609434218613702656, .int .i64 64, .agg #[.bool t820, .bool t821, .bool t822, .bool t823, .bool t824, .int .i64 t825, .int .i64 t826, .int .i32 t827]] rfl lz ?_; (with_reducible refine (floats_Float.calls k 4609434218613702656 64 t820 t821 t822 t823 t824 t825 t826 t827 t828 true _ A2.out).mono ?_); rintro e w30 ⟨rfl, hb⟩; refine ⟨_, rfl, ?_⟩; replace HB := bN bz hb; (try clear hb); (try clear hb2); (try clear hk); (try clear hi)) | ((with_reducible refine gate_callee (f := 30) rfl ?_); refine goesL_ (some 13) rfl rfl Tryz.func30 (by kernel_rfl) rfl #[.int .i32 118] rfl lz ?_; (with_reducible refine (platenlaw06_bare.calls 118 t830 t831 t832 t833 t834 t835 t836 t837 _ A3.out).mono ?_); rintro e w31 ⟨rfl, hb⟩; refine ⟨_, rfl, ?_⟩; replace HB := bN bz hb; (try clear hb); (try clear hb2); (try clear hk); (try clear hi)) | ((with_reducible refine gate_callee (f := 25) rfl ?_); refine goesL_ (some 14) rfl rfl Tryz.func25 (by kernel_rfl) rfl #[.int .u64 4591870180066957722, .int .i64 64, .agg #[.bool t830, .bool t831, .bool t832, .bool t833, .bool t834, .int .i64 t835, .int .i64 t836, .int .i32 t837]] rfl lz ?_; (with_reducible refine (floats_Float.calls k 4591870180066957722 64 t830 t831 t832 t833 t834 t835 t836 t837 t838 false _ A4.out).mono ?_); rintro e w32 ⟨rfl, hb⟩; refine ⟨_, rfl, ?_⟩; replace HB := bN bz hb; (try clear hb); (try clear hb2); (try clear hk); (try clear hi)) | ((with_reducible refine gate_callee (f := 30) rfl ?_); refine goesL_ (some 18) rfl rfl Tryz.func30 (by kernel_rfl) rfl #[.int .i32 100] rfl lz ?_; (with_reducible refine (platenlaw06_bare.calls 100 t840 t841 t842 t843 t844 t845 t846 t847 _ A5.out).mono ?_); rintro e w33 ⟨rfl, hb⟩; refine ⟨_, rfl, ?_⟩; replace HB := bN bz hb; (try clear hb); (try clear hb2); (try clear hk); (try clear hi)) | ((with_reducible refine gate_callee (f := 25) rfl ?_); refine goesL_ (some 19) rfl rfl Tryz.func25 (by kernel_rfl) rfl #[.int .u64 0, .int .i64 64, .agg #[.bool t840, .bool t841, .bool t842, .bool t843, .bool t844, .int .i64 t845, .int .i64 t846, .int .i32 t847]] rfl lz ?_; (with_reducible refine (floats_Float.calls k 0 64 t840 t841 t842 t843 t844 t845 t846 t847 t848 t849 _ A6.out).mono ?_); rintro e w34 ⟨rfl, hb⟩; refine ⟨_, rfl, ?_⟩; replace HB := bN bz hb; (try clear hb); (try clear hb2); (try clear hk); (try clear hi)))
   go_ret
   exact ⟨ez, bz⟩
 ·replace c7 := Bool.eq_false_iff.mpr c7
  subst c7
  replace H := hF H
  obtain rfl := Option.some.inj H
  go_enter Tryz.func23, Tryz.ntmps23
  go_wp2_with (first | ((with_reducible refine gate_callee (f := 30) rfl ?_); refine goesL_ (some 8) rfl rfl Tryz.func30 (by kernel_rfl) rfl #[.int .i32 101] rfl lz ?_; (with_reducible refine (platenlaw06_bare.calls 101 t820 t821 t822 t823 t824 t825 t826 t827 _ A1.out).mono ?_); rintro e w35 ⟨rfl, hb⟩; refine ⟨_, rfl, ?_⟩; replace HB := bN bz hb; (try clear hb); (try clear hb2); (try clear hk); (try clear hi)) | ((with_reducible refine gate_callee (f := 25) rfl ?_); refine goesL_ (some 9) rfl rfl Tryz.func25 (by kernel_rfl) rfl #[.int .u64 4609434218613702656, .int .i64 64, .agg #[.bool t820, .bool t821, .bool t822, .bool t823, .bool t824, .int .i64 t825, .int .i64 t826, .int .i32 t827]] rfl lz ?_; (with_reducible refine (floats_Float.calls k 4609434218613702656 64 t820 t821 t822 t823 t824 t825 t826 t827 t828 false _ A2.out).mono ?_); rintro e w36 ⟨rfl, hb⟩; refine ⟨_, rfl, ?_⟩; replace HB := bN bz hb; (try clear hb); (try clear hb2); (try clear hk); (try clear hi)) | ((with_reducible refine gate_callee (f := 30) rfl ?_); refine goesL_ (some 13) rfl rfl Tryz.func30 (by kernel_rfl) rfl #[.int .i32 118] rfl lz ?_; (with_reducible refine (platenlaw06_bare.calls 118 t830 t831 t832 t833 t834 t835 t836 t837 _ A3.out).mono ?_); rintro e w37 ⟨rfl, hb⟩; refine ⟨_, rfl, ?_⟩; replace HB := bN bz hb; (try clear hb); (try clear hb2); (try clear hk); (try clear hi)) | ((with_reducible refine gate_callee (f := 25) rfl ?_); refine goesL_ (some 14) rfl rfl Tryz.func25 (by kernel_rfl) rfl #[.int .u64 4591870180066957722, .int .i64 64, .agg #[.bool t830, .bool t831, .bool t832, .bool t833, .bool t834, .int .i64 t835, .int .i64 t836, .int .i32 t837]] rfl lz ?_; (with_reducible refine (floats_Float.calls k 4591870180066957722 64 t830 t831 t832 t833 t834 t835 t836 t837 t838 t839 _ A4.out).mono ?_); rintro e w38 ⟨rfl, hb⟩; refine ⟨_, rfl, ?_⟩; replace HB := bN bz hb; (try clear hb); (try clear hb2); (try clear hk); (try clear hi)) | ((with_reducible refine gate_callee (f := 30) rfl ?_); refine goesL_ (some 18) rfl rfl Tryz.func30 (by kernel_rfl) rfl #[.int .i32 100] rfl lz ?_; (with_reducible refine (platenlaw06_bare.calls 100 t840 t841 t842 t843 t844 t845 t846 t847 _ A5.out).mono ?_); rintro e w39 ⟨rfl, hb⟩; refine ⟨_, rfl, ?_⟩; replace HB := bN bz hb; (try clear hb); (try clear hb2); (try clear hk); (try clear hi)) | ((with_reducible refine gate_callee (f := 25) rfl ?_); refine goesL_ (some 19) rfl rfl Tryz.func25 (by kernel_rfl) rfl #[.int .u64 0, .int .i64 64, .agg #[.bool t840, .bool t841, .bool t842, .bool t843, .bool t844, .int .i64 t845, .int .i64 t846, .int .i32 t847]] rfl lz ?_; (with_reducible refine (floats_Float.calls k 0 64 t840 t841 t842 t843 t844 t845 t846 t847 t848 t849 _ A6.out).mono ?_); rintro e w40 ⟨rfl, hb⟩; refine ⟨_, rfl, ?_⟩; replace HB := bN bz hb; (try clear hb); (try clear hb2); (try clear hk); (try clear hi)))
  go_ret
  exact ⟨ez, bz⟩
end Go.Proofs.YtecpgdfnamkfdaaGreatDoor.Fn
end
section
namespace Go.Proofs.YtecpgdfnamkfdaaGreatDoor.Pure
open Go.RowKit Go.Proofs.YtecpgdfnamkfdaaGreatDoorW.PrintWords Go.Proofs.YtecpgdfnamkfdaaGreatDoorW.PrintLast Go.Proofs.YtecpgdfnamkfdaaGreatDoorW.PrintMore Go.Proofs.YtecpgdfnamkfdaaGreatDoor.Fn
set_option linter.unusedVariables false
set_option linter.unusedSimpArgs false
theorem ex_e : floatS true 4609434218613702656 false false false false false (-1) (-1) 101 = (S [49, 46, 53, 48, 48, 48, 48, 48, 101, 43, 48, 48], true) := by decide +kernel
theorem ex_v : floatS true 4591870180066957722 false false false false false (-1) (-1) 118 = (S [48, 46, 49], true) := by
  have h0 : codeV 118 = 3 := by decide
  have h1 : bareN true 4591870180066957722 = 4591870180066957722 := by decide
  have h2 : (4591870180066957722 : Nat) < ii true := by decide
  unfold floatS
  rw [h1, if_neg (by rw [h0]; decide), if_pos h2]
  have hr : ∀ m e, restL true 4591870180066957722 m e (clamp (-1)) 118 false = [48, 46, 49] := by
    intro m e
    unfold restL genOf shortL
    rw [h0, if_neg (by decide), if_neg (by decide), if_pos rfl, if_pos (by decide), if_neg (by decide), tenth_short]
    decide
  rw [hr]
  decide
theorem lives6 : Ev (fun k => platenlaw06_lives.f k) true := by
  have h1 := float_ev true (a := 4609434218613702656) (by decide) false false false false false (-1) (-1) 101
  rw [ex_e] at h1
  have h2 := float_ev true (a := 4591870180066957722) (by decide) false false false false false (-1) (-1) 118
  rw [ex_v] at h2
  have h3 := float_ev true (a := 0) (by decide) false false false false false (-1) (-1) 100
  rw [show floatS true 0 false false false false false (-1) (-1) 100 = (⟨#[]⟩, false) from rfl] at h3
  unfold platenlaw06_lives.f platenlaw06_bare.f
  simp only [Option.bind_some]
  refine Ev.bind (g := fun k => floats_Float.f k 4609434218613702656 64 false false false false false (-1) (-1) 101) h1 ?_
  refine Ev.bind (g := fun k => floats_Float.f k 4591870180066957722 64 false false false false false (-1) (-1) 118) h2 ?_
  refine Ev.bind (g := fun k => floats_Float.f k 0 64 false false false false false (-1) (-1) 100) h3 ?_
  refine Ev.congr (fun k => ?_) (Ev.now _)
  rw [if_pos rfl, if_pos rfl, if_neg (by simp), if_pos (by rw [toList_L, L_S]), toList_L, L_S]
  rfl
theorem livesEnd6 : Ev (fun k => (platenlaw06_lives.f k).bind fun t => some t) true := Ev.bind lives6 (Ev.now _)
theorem sized6 (wide : Bool) : platenlaw06_sized.f wide = some (szB wide) := by cases wide <;> rfl
def HeadD (l : List UInt8) : Prop := ∃ c t, l = c :: t ∧ 48 ≤ c.toNat ∧ c.toNat ≤ 57
theorem HeadD.app {a : List UInt8} (h : HeadD a) (b : List UInt8) : HeadD (a ++ b) := by
  obtain ⟨c, t, rfl, h1⟩ := h
  exact ⟨c, t ++ b, rfl, h1⟩
theorem end_none (sign rest : List UInt8) (minus zero : Bool) {wid : Int} (h : wid ≤ 0) : endL sign rest minus zero wid = sign ++ rest := by
  have h1 : (max 0 (min wid 1000) - (sign.length : Int) - (rest.length : Int)).toNat = 0 := by omega
  have h2 : ∀ l : List UInt8, padL l minus false wid = l := by
    intro l
    unfold padL
    rw [show (max 0 (min wid 1000) - (l.length : Int)).toNat = 0 by omega]
    cases minus <;> simp
  unfold endL
  rw [h1, h2]
  split <;> simp
end Go.Proofs.YtecpgdfnamkfdaaGreatDoor.Pure
end
section
namespace Go.Proofs.YtecpgdfnamkfdaaGreatDoor.Fn
open Go.RowKit Go.Proofs.YtecpgdfnamkfdaaGreatDoorW.PrintWords Go.Proofs.YtecpgdfnamkfdaaGreatDoorW.PrintLast Go.Proofs.YtecpgdfnamkfdaaGreatDoorW.PrintMore
attribute [local go_sem] fnW_0 fnW_1 fnW_2 fnW_3 fnW_4 fnW_5 fnW_guard fnW_eql max2_int min2_int max_two min_two
set_option linter.unusedVariables false
set_option linter.unusedSimpArgs false
def platenlaw06_FloatsSigns.j0 : Nat → ByteArray → Bool → ByteArray → Bool → ByteArray → ByteArray → Bool → Option (Bool)
 | 0, _, _, _, _, _, _, _ => none
 | k + 1, x13, x14, x15, x16, x17, x19, x82 => if x82 = true then (if (x14 == x16) = true then (if x13.toList = ([] : List UInt8) then (if x15.toList = ([] : List UInt8) then (if x17.toList = ([] : List UInt8) then (if x19.toList = ([] : List UInt8) then ((platenlaw06_lives.f k).bind fun t908 => (some t908)) else (some false)) else (some false)) else (some false)) else (some false)) else (some false)) else (if 1 + x13.size ≤ 9223372036854775807 then (if x15.toList = ((⟨#[45]⟩ : ByteArray) ++ x13).toList then (if x17.toList = ((⟨#[43]⟩ : ByteArray) ++ x13).toList then (if x19.toList = x15.toList then ((platenlaw06_lives.f k).bind fun t909 => (some t909)) else (some false)) else (some false)) else (some false)) else (none))
def platenlaw06_FloatsSigns.f (k : Nat) (a0 : Int) (a1 : Bool) (a2_0 : Bool) (a2_1 : Bool) (a2_2 : Bool) (a2_3 : Bool) (a2_4 : Bool) (a2_5 : Int) (a2_6 : Int) (a2_7 : Int) : Option (Bool) := (platenlaw06_sized.f a1).bind fun t894 => (if 0 ≤ (wrap64 (t894 - 1)) then ((short_Parts.f (Go.bits .and .u64 a0 (IntKind.u64.wrap ((shl .u64 1 (wrap64 (t894 - 1))) - 1))) t894).bind fun bt895 => (if bt895.2.2.2 = 0 then ((floats_Float.f k (Go.bits .and .u64 a0 (IntKind.u64.wrap ((shl .u64 1 (wrap64 (t894 - 1))) - 1))) t894 false a2_1 a2_2 false a2_4 (-1) a2_6 a2_7).bind fun bt900 => ((floats_Float.f k (Go.bits .or .u64 (Go.bits .and .u64 a0 (IntKind.u64.wrap ((shl .u64 1 (wrap64 (t894 - 1))) - 1))) (shl .u64 1 (wrap64 (t894 - 1)))) t894 false a2_1 a2_2 false a2_4 (-1) a2_6 a2_7).bind fun bt902 => ((floats_Float.f k (Go.bits .and .u64 a0 (IntKind.u64.wrap ((shl .u64 1 (wrap64 (t894 - 1))) - 1))) t894 true a2_1 a2_2 false a2_4 (-1) a2_6 a2_7).bind fun bt904 => ((floats_Float.f k (Go.bits .or .u64 (Go.bits .and .u64 a0 (IntKind.u64.wrap ((shl .u64 1 (wrap64 (t894 - 1))) - 1))) (shl .u64 1 (wrap64 (t894 - 1)))) t894 true a2_1 a2_2 false a2_4 (-1) a2_6 a2_7).bind fun bt906 => (if bt900.2 = true then (platenlaw06_FloatsSigns.j0 k bt900.1 bt900.2 bt902.1 bt902.2 bt904.1 bt906.1 (!bt902.2)) else (platenlaw06_FloatsSigns.j0 k bt900.1 bt900.2 bt902.1 bt902.2 bt904.1 bt906.1 true)))))) else ((platenlaw06_lives.f k).bind fun t899 => (some t899)))) else (none))
set_option maxHeartbeats 8000000 in
set_option maxRecDepth 100000 in
theorem platenlaw06_FloatsSigns.calls (k : Nat) (a0 : Int) (a1 : Bool) (a2_0 : Bool) (a2_1 : Bool) (a2_2 : Bool) (a2_3 : Bool) (a2_4 : Bool) (a2_5 : Int) (a2_6 : Int) (a2_7 : Int) (r : Bool) (w : World) (h : platenlaw06_FloatsSigns.f k a0 a1 a2_0 a2_1 a2_2 a2_3 a2_4 a2_5 a2_6 a2_7 = some r) :
  Calls Tryz.prog 8 #[.int .u64 a0, .bool a1, .agg #[.bool a2_0, .bool a2_1, .bool a2_2, .bool a2_3, .bool a2_4, .int .i64 a2_5, .int .i64 a2_6, .int .i32 a2_7]] w fun e w' => e = .returned (.bool r) ∧ Below w.heap.size w w' := by
 have hu26 := Tryz.underlying26
 have HB := Aside0.mk (Below.refl w.heap.size w)
 have H : ((platenlaw06_sized.f a1).bind fun t894 => (if 0 ≤ (wrap64 (t894 - 1)) then ((short_Parts.f (Go.bits .and .u64 a0 (IntKind.u64.wrap ((shl .u64 1 (wrap64 (t894 - 1))) - 1))) t894).bind fun bt895 => (if bt895.2.2.2 = 0 then ((floats_Float.f k (Go.bits .and .u64 a0 (IntKind.u64.wrap ((shl .u64 1 (wrap64 (t894 - 1))) - 1))) t894 false a2_1 a2_2 false a2_4 (-1) a2_6 a2_7).bind fun bt900 => ((floats_Float.f k (Go.bits .or .u64 (Go.bits .and .u64 a0 (IntKind.u64.wrap ((shl .u64 1 (wrap64 (t894 - 1))) - 1))) (shl .u64 1 (wrap64 (t894 - 1)))) t894 false a2_1 a2_2 false a2_4 (-1) a2_6 a2_7).bind fun bt902 => ((floats_Float.f k (Go.bits .and .u64 a0 (IntKind.u64.wrap ((shl .u64 1 (wrap64 (t894 - 1))) - 1))) t894 true a2_1 a2_2 false a2_4 (-1) a2_6 a2_7).bind fun bt904 => ((floats_Float.f k (Go.bits .or .u64 (Go.bits .and .u64 a0 (IntKind.u64.wrap ((shl .u64 1 (wrap64 (t894 - 1))) - 1))) (shl .u64 1 (wrap64 (t894 - 1)))) t894 true a2_1 a2_2 false a2_4 (-1) a2_6 a2_7).bind fun bt906 => (if bt900.2 = true then (platenlaw06_FloatsSigns.j0 k bt900.1 bt900.2 bt902.1 bt902.2 bt904.1 bt906.1 (!bt902.2)) else (platenlaw06_FloatsSigns.j0 k bt900.1 bt900.2 bt902.1 bt902.2 bt904.1 bt906.1 true)))))) else ((platenlaw06_lives.f k).bind fun t899 => (some t899)))) else (none))) = some r := h
 clear h
 replace H := bs H
 obtain ⟨t894, A4, H⟩ := H
 obtain ⟨ji5, hji5⟩ : ∃ j_ : Int, (wrap64 (t894 - 1)) = j_ := ⟨_, rfl⟩
 (first | rw [hji5] at H | simp only [hji5] at H)
 (try rw [hji5] at A4)
 have hji5w : (IntKind.i64.wrap (t894 - 1)) = ji5 := (i64_w _).trans hji5
 by_cases c6 : 0 ≤ (ji5)
 ·replace H := hE H c6
  have c6b0 := eq_true c6
  have c6b1 : decide (0 ≤ (ji5)) = true := decide_eq_true c6
  clear c6
  obtain ⟨ji7, hji7⟩ : ∃ j_ : Int, (shl .u64 1 (ji5)) = j_ := ⟨_, rfl⟩
  (first | rw [hji7] at H | simp only [hji7] at H)
  (try rw [hji7] at A4)
  have hji7_ : (IntKind.u64.wrap (1 * 2 ^ min (ji5).toNat 64)) = ji7 := hji7
  have hji7z : (ji5) ≤ 64 → (IntKind.u64.wrap (1 * 2 ^ (ji5).toNat)) = ji7 := shl_small hji7
  have hji7u : (IntKind.u64.wrap (2 ^ min (ji5).toNat 64)) = ji7 := by have h_ := hji7_; rw [Int.one_mul] at h_; exact h_
  have hji7v : (ji5) ≤ 64 → (IntKind.u64.wrap (2 ^ (ji5).toNat)) = ji7 := fun hle_ => by have h_ := hji7z hle_; rw [Int.one_mul] at h_; exact h_
  replace H := bs H
  obtain ⟨⟨t895, t896, t897, t898⟩, A8, H⟩ := H
  dsimp only at H
  go_enter Tryz.func8, Tryz.ntmps8
  go_upto_if 42 with (first | ((with_reducible refine gate_dst (N := 5) rfl ?_); refine box_event rfl (N := 5) rfl (cs := #[.bool a2_0, .bool a2_1, .bool a2_2, .bool a2_3, .bool a2_4, .int .i64 a2_5, .int .i64 a2_6, .int .i32 a2_7]) (t := 26) gz ?_; intro gb893 hg w9 hbox hb; have GE893 := gN bz hg; have BK893 := Aside0.mk hbox; replace HB := bN bz hb; clear hb hbox hg) | ((with_reducible refine gate_callee (f := 21) rfl ?_); refine goesL_ (some 22) rfl rfl Tryz.func21 (by kernel_rfl) rfl #[.bool a1] rfl lz ?_; (with_reducible refine (platenlaw06_sized.calls a1 t894 _ A4.out).mono ?_); rintro e w' ⟨rfl, ⟨nd, rfl⟩⟩; refine ⟨_, rfl, ?_⟩; (try (rw [drewN_self w9]; generalize hq_ : World.drewN w9 _ = w9; have n0_ : Aside0 (w9.heap[gb893]? = some (.cells #[.bool a2_0, .bool a2_1, .bool a2_2, .bool a2_3, .bool a2_4, .int .i64 a2_5, .int .i64 a2_6, .int .i32 a2_7] 26 (0, 0))) := ⟨by rw [← hq_]; exact bk⟩; have n1_ : Aside0 (Below w.heap.size w w9) := ⟨by rw [← hq_]; exact bz⟩; clear BK893 HB hq_; have BK893 := n0_; have HB := n1_; clear n0_ n1_)); obtain ⟨hcz10_0, hcz10_1, hcz10_2, hcz10_3, hcz10_4, hcz10_5, hcz10_6, hcz10_7, hfz10_0, hfz10_1, hfz10_2, hfz10_3, hfz10_4, hfz10_5, hfz10_6, hfz10_7⟩ := cz8 (W := w9) BK893) | ((with_reducible refine gate_callee (f := 24) rfl ?_); refine goesL_ (some 36) rfl rfl Tryz.func24 (by kernel_rfl) rfl #[.int .u64 (Go.bits .and .u64 a0 (IntKind.u64.wrap ((ji7) - 1))), .int .i64 t894] rfl (by (try simp only [List.map_toArray, List.map_cons, List.map_nil]); first | done | (simp only [hji7]; rfl) | rfl | (simp only [List.length_drop, List.length_take]; rfl)) ?_; (with_reducible refine (short_Parts.calls (Go.bits .and .u64 a0 (IntKind.u64.wrap ((ji7) - 1))) t894 t895 t896 t897 t898 _ A8.out).mono ?_); rintro e w11 ⟨rfl, hb⟩; refine ⟨_, rfl, ?_⟩; replace BK893 := kN (g := gb893) (cs := #[.bool false, .bool a2_1, .bool a2_2, .bool false, .bool a2_4, .int .i64 (-1), .int .i64 a2_6, .int .i32 a2_7]) hb bk; replace HB := bN bz hb; (try clear hb); (try clear hb2); (try clear hk); (try clear hi)))
  (try simp only [Act.put, List.setIfInBounds_toArray, List.set_cons_zero, List.set_cons_succ])
  by_cases c12 : t898 = 0
  ·replace H := hE H c12
   obtain ⟨c12b0, c12b1⟩ := eT c12
   clear c12
   try first | rw [c12b0] | rw [c12b1]
   replace H := bs H
   obtain ⟨⟨t900, t901⟩, A13, H⟩ := H
   dsimp only at H
   replace H := bs H
   obtain ⟨⟨t902, t903⟩, A14, H⟩ := H
   dsimp only at H
   replace H := bs H
   obtain ⟨⟨t904, t905⟩, A15, H⟩ := H
   dsimp only at H
   replace H := bs H
   obtain ⟨⟨t906, t907⟩, A16, H⟩ := H
   dsimp only at H
   have HC17 := Aside0.mk H
   clear H
   obtain ⟨hcz18_0, hcz18_1, hcz18_2, hcz18_3, hcz18_4, hcz18_5, hcz18_6, hcz18_7, hfz18_0, hfz18_1, hfz18_2, hfz18_3, hfz18_4, hfz18_5, hfz18_6, hfz18_7⟩ := cz8 (W := w11) BK893
   go_upto_region 13 with (first | ((with_reducible refine gate_callee (f := 25) rfl ?_); refine goesL_ (some 48) rfl rfl Tryz.func25 (by kernel_rfl) rfl #[.int .u64 (Go.bits .and .u64 a0 (IntKind.u64.wrap ((ji7) - 1))), .int .i64 t894, .agg #[.bool false, .bool a2_1, .bool a2_2, .bool false, .bool a2_4, .int .i64 (-1), .int .i64 a2_6, .int .i32 a2_7]] rfl (by (try simp only [List.map_toArray, List.map_cons, List.map_nil]); first | done | (simp only [hji7]; rfl) | rfl | (simp only [List.length_drop, List.length_take]; rfl)) ?_; (with_reducible refine (floats_Float.calls k (Go.bits .and .u64 a0 (IntKind.u64.wrap ((ji7) - 1))) t894 false a2_1 a2_2 false a2_4 (-1) a2_6 a2_7 t900 t901 _ A13.out).mono ?_); rintro e w19 ⟨rfl, hb⟩; refine ⟨_, rfl, ?_⟩; replace BK893 := kN (g := gb893) (cs := #[.bool false, .bool a2_1, .bool a2_2, .bool false, .bool a2_4, .int .i64 (-1), .int .i64 a2_6, .int .i32 a2_7]) hb bk; replace HB := bN bz hb; (try clear hb); (try clear hb2); (try clear hk); (try clear hi); obtain ⟨hcz20_0, hcz20_1, hcz20_2, hcz20_3, hcz20_4, hcz20_5, hcz20_6, hcz20_7, hfz20_0, hfz20_1, hfz20_2, hfz20_3, hfz20_4, hfz20_5, hfz20_6, hfz20_7⟩ := cz8 (W := w19) BK893) | ((with_reducible refine gate_callee (f := 25) rfl ?_); refine goesL_ (some 57) rfl rfl Tryz.func25 (by kernel_rfl) rfl #[.int .u64 (Go.bits .or .u64 (Go.bits .and .u64 a0 (IntKind.u64.wrap ((ji7) - 1))) (ji7)), .int .i64 t894, .agg #[.bool false, .bool a2_1, .bool a2_2, .bool false, .bool a2_4, .int .i64 (-1), .int .i64 a2_6, .int .i32 a2_7]] rfl (by (try simp only [List.map_toArray, List.map_cons, List.map_nil]); first | done | (simp only [hji7]; rfl) | rfl | (simp only [List.length_drop, List.length_take]; rfl)) ?_; (with_reducible refine (floats_Float.calls k (Go.bits .or .u64 (Go.bits .and .u64 a0 (IntKind.u64.wrap ((ji7) - 1))) (ji7)) t894 false a2_1 a2_2 false a2_4 (-1) a2_6 a2_7 t902 t903 _ A14.out).mono ?_); rintro e w21 ⟨rfl, hb⟩; refine ⟨_, rfl, ?_⟩; replace BK893 := kN (g := gb893) (cs := #[.bool false, .bool a2_1, .bool a2_2, .bool false, .bool a2_4, .int .i64 (-1), .int .i64 a2_6, .int .i32 a2_7]) hb bk; replace HB := bN bz hb; (try clear hb); (try clear hb2); (try clear hk); (try clear hi); obtain ⟨hcz22_0, hcz22_1, hcz22_2, hcz22_3, hcz22_4, hcz22_5, hcz22_6, hcz22_7, hfz22_0, hfz22_1, hfz22_2, hfz22_3, hfz22_4, hfz22_5, hfz22_6, hfz22_7⟩ := cz8 (W := w21) BK893) | ((with_reducible refine gate_callee (f := 25) rfl ?_); refine goesL_ (some 65) rfl rfl Tryz.func25 (by kernel_rfl) rfl #[.int .u64 (Go.bits .and .u64 a0 (IntKind.u64.wrap ((ji7) - 1))), .int .i64 t894, .agg #[.bool true, .bool a2_1, .bool a2_2, .bool false, .bool a2_4, .int .i64 (-1), .int .i64 a2_6, .int .i32 a2_7]] rfl (by (try simp only [List.map_toArray, List.map_cons, List.map_nil]); first | done | (simp only [hji7]; rfl) | rfl | (simp only [List.length_drop, List.length_take]; rfl)) ?_; (with_reducible refine (floats_Float.calls k (Go.bits .and .u64 a0 (IntKind.u64.wrap ((ji7) - 1))) t894 true a2_1 a2_2 false a2_4 (-1) a2_6 a2_7 t904 t905 _ A15.out).mono ?_); rintro e w23 ⟨rfl, hb⟩; refine ⟨_, rfl, ?_⟩; replace BK893 := kN (g := gb893) (cs := #[.bool true, .bool a2_1, .bool a2_2, .bool false, .bool a2_4, .int .i64 (-1), .int .i64 a2_6, .int .i32 a2_7]) hb bk; replace HB := bN bz hb; (try clear hb); (try clear hb2); (try clear hk); (try clear hi); obtain ⟨hcz24_0, hcz24_1, hcz24_2, hcz24_3, hcz24_4, hcz24_5, hcz24_6, hcz24_7, hfz24_0, hfz24_1, hfz24_2, hfz24_3, hfz24_4, hfz24_5, hfz24_6, hfz24_7⟩ := cz8 (W := w23) BK893) | ((with_reducible refine gate_callee (f := 25) rfl ?_); refine goesL_ (some 74) rfl rfl Tryz.func25 (by kernel_rfl) rfl #[.int .u64 (Go.bits .or .u64 (Go.bits .and .u64 a0 (IntKind.u64.wrap ((ji7) - 1))) (ji7)), .int .i64 t894, .agg #[.bool true, .bool a2_1, .bool a2_2, .bool false, .bool a2_4, .int .i64 (-1), .int .i64 a2_6, .int .i32 a2_7]] rfl (by (try simp only [List.map_toArray, List.map_cons, List.map_nil]); first | done | (simp only [hji7]; rfl) | rfl | (simp only [List.length_drop, List.length_take]; rfl)) ?_; (with_reducible refine (floats_Float.calls k (Go.bits .or .u64 (Go.bits .and .u64 a0 (IntKind.u64.wrap ((ji7) - 1))) (ji7)) t894 true a2_1 a2_2 false a2_4 (-1) a2_6 a2_7 t906 t907 _ A16.out).mono ?_); rintro e w25 ⟨rfl, hb⟩; refine ⟨_, rfl, ?_⟩; replace BK893 := kN (g := gb893) (cs := #[.bool true, .bool a2_1, .bool a2_2, .bool false, .bool a2_4, .int .i64 (-1), .int .i64 a2_6, .int .i32 a2_7]) hb bk; replace HB := bN bz hb; (try clear hb); (try clear hb2); (try clear hk); (try clear hi)))
   (try simp only [Act.put, List.setIfInBounds_toArray, List.set_cons_zero, List.set_cons_succ])
   go_cut [82] (fun v82 wc => ∃ (kq : Nat) (x82_16 : Bool), v82 = .bool x82_16 ∧ Aside0 (platenlaw06_FloatsSigns.j0 kq t900 t901 t902 t903 t904 t906 x82_16 = some r) ∧ Aside0 (kq ≤ k) ∧ Aside0 (wc.heap[gb893]? = some (.cells #[.bool true, .bool a2_1, .bool a2_2, .bool false, .bool a2_4, .int .i64 (-1), .int .i64 a2_6, .int .i32 a2_7] 26 (0, 0))) ∧ Aside0 (Below w.heap.size w wc))
   case first =>
    have H := HC17.out
    clear HC17
    by_cases c26 : t901 = true
    ·subst c26
     replace H := hT H
     have H' := Aside0.mk H
     clear H
     go_wp2
     go_meet
     case rel => exact ⟨_, (!t903), rz, H', ⟨by first | omega | exact Nat.le_refl _⟩, ⟨bk⟩, ⟨bz⟩⟩
    ·replace c26 := Bool.eq_false_iff.mpr c26
     subst c26
     replace H := hF H
     have H' := Aside0.mk H
     clear H
     go_wp2
     go_meet
     case rel => exact ⟨_, (true), rz, H', ⟨by first | omega | exact Nat.le_refl _⟩, ⟨bk⟩, ⟨bz⟩⟩
   case rest =>
    clear HC17
    try clear c6
    try clear c6b0
    try clear c6b1
    try clear c12
    try clear c12b0
    try clear c12b1
    try clear c26
    try clear hcz10_0 hcz10_1 hcz10_2 hcz10_3 hcz10_4 hcz10_5 hcz10_6 hcz10_7 hfz10_0 hfz10_1 hfz10_2 hfz10_3 hfz10_4 hfz10_5 hfz10_6 hfz10_7
    try clear hcz18_0 hcz18_1 hcz18_2 hcz18_3 hcz18_4 hcz18_5 hcz18_6 hcz18_7 hfz18_0 hfz18_1 hfz18_2 hfz18_3 hfz18_4 hfz18_5 hfz18_6 hfz18_7
    try clear hcz20_0 hcz20_1 hcz20_2 hcz20_3 hcz20_4 hcz20_5 hcz20_6 hcz20_7 hfz20_0 hfz20_1 hfz20_2 hfz20_3 hfz20_4 hfz20_5 hfz20_6 hfz20_7
    try clear hcz22_0 hcz22_1 hcz22_2 hcz22_3 hcz22_4 hcz22_5 hcz22_6 hcz22_7 hfz22_0 hfz22_1 hfz22_2 hfz22_3 hfz22_4 hfz22_5 hfz22_6 hfz22_7
    try clear hcz24_0 hcz24_1 hcz24_2 hcz24_3 hcz24_4 hcz24_5 hcz24_6 hcz24_7 hfz24_0 hfz24_1 hfz24_2 hfz24_3 hfz24_4 hfz24_5 hfz24_6 hfz24_7
    obtain ⟨kq, x82_16, rfl, HA, HJ16, BK893, HB⟩ := hcut
    cases kq with
    | zero => exact absurd HA.out (by simp [platenlaw06_FloatsSigns.j0])
    | succ kj16 =>
     have H := HA.out
     clear HA
     simp only [platenlaw06_FloatsSigns.j0] at H
     by_cases c27 : x82_16 = true
     ·subst c27
      replace H := hT H
      by_cases c28 : (t901 == t903) = true
      ·replace H := hE H c28
       have c28b0 : (t901 == t903) = true := c28
       (try (have c28b1 : decide (t901 = t903) = true := by simpa using c28))
       (try (have c28b2 : (t901 == t903) = true := by simpa using c28))
       clear c28
       by_cases c29 : t900.toList = ([] : List UInt8)
       ·replace H := hE H c29
        have c29b0 : (t900.toList == ([] : List UInt8)) = true := beq_iff_eq.mpr c29
        have c29b1 : (t900.toList != ([] : List UInt8)) = false := bne_eq_false_iff_eq.mpr c29
        have c29b7 : t900.toList.isEmpty = true := by simpa using c29b0
        clear c29
        by_cases c30 : t902.toList = ([] : List UInt8)
        ·replace H := hE H c30
         have c30b0 : (t902.toList == ([] : List UInt8)) = true := beq_iff_eq.mpr c30
         have c30b1 : (t902.toList != ([] : List UInt8)) = false := bne_eq_false_iff_eq.mpr c30
         have c30b7 : t902.toList.isEmpty = true := by simpa using c30b0
         clear c30
         by_cases c31 : t904.toList = ([] : List UInt8)
         ·replace H := hE H c31
          have c31b0 : (t904.toList == ([] : List UInt8)) = true := beq_iff_eq.mpr c31
          have c31b1 : (t904.toList != ([] : List UInt8)) = false := bne_eq_false_iff_eq.mpr c31
          have c31b7 : t904.toList.isEmpty = true := by simpa using c31b0
          clear c31
          by_cases c32 : t906.toList = ([] : List UInt8)
          ·replace H := hE H c32
           have c32b0 : (t906.toList == ([] : List UInt8)) = true := beq_iff_eq.mpr c32
           have c32b1 : (t906.toList != ([] : List UInt8)) = false := bne_eq_false_iff_eq.mpr c32
           have c32b7 : t906.toList.isEmpty = true := by simpa using c32b0
           clear c32
           replace H := bs H
           obtain ⟨t908, A33, H⟩ := H
           obtain rfl := Option.some.inj H
           go_wp2_with (first | (go_at_call 23; (with_reducible refine (platenlaw06_lives.calls kj16  t908 _ A33.out).mono ?_); rintro e w34 ⟨rfl, hb⟩; replace BK893 := kN (g := gb893) (cs := #[.bool true, .bool a2_1, .bool a2_2, .bool false, .bool a2_4, .int .i64 (-1), .int .i64 a2_6, .int .i32 a2_7]) hb bk; replace HB := bN bz hb; (try clear hb); (try clear hb2); (try clear hk); (try clear hi)))
           go_ret
           exact ⟨by first | rfl | (simp [errW_none, errW_some] <;> rfl) | (simp only [← hji5, ← hji7]; first | rfl | (simp [errW_none, errW_some] <;> rfl)) | (simp [*, errW_none, errW_some] <;> rfl), bz⟩
          ·replace H := hN H c32
           have c32b0 : (t906.toList == ([] : List UInt8)) = false := beq_eq_false_iff_ne.mpr c32
           have c32b1 : (t906.toList != ([] : List UInt8)) = true := bne_iff_ne.mpr c32
           have c32b7 : t906.toList.isEmpty = false := by simpa using c32b0
           obtain rfl := Option.some.inj H
           go_wp2
           go_ret
           exact ⟨by first | rfl | (simp [errW_none, errW_some] <;> rfl) | (simp only [← hji5, ← hji7]; first | rfl | (simp [errW_none, errW_some] <;> rfl)) | (simp [*, errW_none, errW_some] <;> rfl), bz⟩
         ·replace H := hN H c31
          have c31b0 : (t904.toList == ([] : List UInt8)) = false := beq_eq_false_iff_ne.mpr c31
          have c31b1 : (t904.toList != ([] : List UInt8)) = true := bne_iff_ne.mpr c31
          have c31b7 : t904.toList.isEmpty = false := by simpa using c31b0
          obtain rfl := Option.some.inj H
          go_wp2
          go_ret
          exact ⟨by first | rfl | (simp [errW_none, errW_some] <;> rfl) | (simp only [← hji5, ← hji7]; first | rfl | (simp [errW_none, errW_some] <;> rfl)) | (simp [*, errW_none, errW_some] <;> rfl), bz⟩
        ·replace H := hN H c30
         have c30b0 : (t902.toList == ([] : List UInt8)) = false := beq_eq_false_iff_ne.mpr c30
         have c30b1 : (t902.toList != ([] : List UInt8)) = true := bne_iff_ne.mpr c30
         have c30b7 : t902.toList.isEmpty = false := by simpa using c30b0
         obtain rfl := Option.some.inj H
         go_wp2
         go_ret
         exact ⟨by first | rfl | (simp [errW_none, errW_some] <;> rfl) | (simp only [← hji5, ← hji7]; first | rfl | (simp [errW_none, errW_some] <;> rfl)) | (simp [*, errW_none, errW_some] <;> rfl), bz⟩
       ·replace H := hN H c29
        have c29b0 : (t900.toList == ([] : List UInt8)) = false := beq_eq_false_iff_ne.mpr c29
        have c29b1 : (t900.toList != ([] : List UInt8)) = true := bne_iff_ne.mpr c29
        have c29b7 : t900.toList.isEmpty = false := by simpa using c29b0
        obtain rfl := Option.some.inj H
        go_wp2
        go_ret
        exact ⟨by first | rfl | (simp [errW_none, errW_some] <;> rfl) | (simp only [← hji5, ← hji7]; first | rfl | (simp [errW_none, errW_some] <;> rfl)) | (simp [*, errW_none, errW_some] <;> rfl), bz⟩
      ·replace H := hN H c28
       have c28b0 : (t901 == t903) = false := by simpa using c28
       (try (have c28b1 : decide (t901 = t903) = false := by simpa using c28))
       (try (have c28b2 : (t901 == t903) = false := by simpa using c28))
       (try (have c28b3 : ¬ (t901 = t903) := by simpa using c28))
       clear c28
       obtain rfl := Option.some.inj H
       go_wp2
       go_ret
       exact ⟨by first | rfl | (simp [errW_none, errW_some] <;> rfl) | (simp only [← hji5, ← hji7]; first | rfl | (simp [errW_none, errW_some] <;> rfl)) | (simp [*, errW_none, errW_some] <;> rfl), bz⟩
     ·replace c27 := Bool.eq_false_iff.mpr c27
      subst c27
      replace H := hF H
      by_cases c35 : 1 + t900.size ≤ 9223372036854775807
      ·replace H := hE H c35
       have c35b0 := eq_true c35
       have c35b1 : decide (1 + t900.size ≤ 9223372036854775807) = true := decide_eq_true c35
       try have c35b2 : (9223372036854775807 < 1 + t900.size) = False := eq_false (Nat.not_lt.2 c35)
       by_cases c36 : t902.toList = ((⟨#[45]⟩ : ByteArray) ++ t900).toList
       ·replace H := hE H c36
        have c36b0 : (t902.toList == ((⟨#[45]⟩ : ByteArray) ++ t900).toList) = true := beq_iff_eq.mpr c36
        have c36b1 : (t902.toList != ((⟨#[45]⟩ : ByteArray) ++ t900).toList) = false := bne_eq_false_iff_eq.mpr c36
        clear c36
        by_cases c37 : t904.toList = ((⟨#[43]⟩ : ByteArray) ++ t900).toList
        ·replace H := hE H c37
         have c37b0 : (t904.toList == ((⟨#[43]⟩ : ByteArray) ++ t900).toList) = true := beq_iff_eq.mpr c37
         have c37b1 : (t904.toList != ((⟨#[43]⟩ : ByteArray) ++ t900).toList) = false := bne_eq_false_iff_eq.mpr c37
         clear c37
         by_cases c38 : t906.toList = t902.toList
         ·replace H := hE H c38
          have c38b0 : (t906.toList == t902.toList) = true := beq_iff_eq.mpr c38
          have c38b1 : (t906.toList != t902.toList) = false := bne_eq_false_iff_eq.mpr c38
          clear c38
          replace H := bs H
          obtain ⟨t909, A39, H⟩ := H
          obtain rfl := Option.some.inj H
          go_wp2_with (first | (go_at_call 23; (with_reducible refine (platenlaw06_lives.calls kj16  t909 _ A39.out).mono ?_); rintro e w40 ⟨rfl, hb⟩; replace BK893 := kN (g := gb893) (cs := #[.bool true, .bool a2_1, .bool a2_2, .bool false, .bool a2_4, .int .i64 (-1), .int .i64 a2_6, .int .i32 a2_7]) hb bk; replace HB := bN bz hb; (try clear hb); (try clear hb2); (try clear hk); (try clear hi)))
          go_ret
          exact ⟨by first | rfl | (simp [errW_none, errW_some] <;> rfl) | (simp only [← hji5, ← hji7]; first | rfl | (simp [errW_none, errW_some] <;> rfl)) | (simp [*, errW_none, errW_some] <;> rfl), bz⟩
         ·replace H := hN H c38
          have c38b0 : (t906.toList == t902.toList) = false := beq_eq_false_iff_ne.mpr c38
          have c38b1 : (t906.toList != t902.toList) = true := bne_iff_ne.mpr c38
          obtain rfl := Option.some.inj H
          go_wp2
          go_ret
          exact ⟨by first | rfl | (simp [errW_none, errW_some] <;> rfl) | (simp only [← hji5, ← hji7]; first | rfl | (simp [errW_none, errW_some] <;> rfl)) | (simp [*, errW_none, errW_some] <;> rfl), bz⟩
        ·replace H := hN H c37
         have c37b0 : (t904.toList == ((⟨#[43]⟩ : ByteArray) ++ t900).toList) = false := beq_eq_false_iff_ne.mpr c37
         have c37b1 : (t904.toList != ((⟨#[43]⟩ : ByteArray) ++ t900).toList) = true := bne_iff_ne.mpr c37
         obtain rfl := Option.some.inj H
         go_wp2
         go_ret
         exact ⟨by first | rfl | (simp [errW_none, errW_some] <;> rfl) | (simp only [← hji5, ← hji7]; first | rfl | (simp [errW_none, errW_some] <;> rfl)) | (simp [*, errW_none, errW_some] <;> rfl), bz⟩
       ·replace H := hN H c36
        have c36b0 : (t902.toList == ((⟨#[45]⟩ : ByteArray) ++ t900).toList) = false := beq_eq_false_iff_ne.mpr c36
        have c36b1 : (t902.toList != ((⟨#[45]⟩ : ByteArray) ++ t900).toList) = true := bne_iff_ne.mpr c36
        obtain rfl := Option.some.inj H
        go_wp2
        go_ret
        exact ⟨by first | rfl | (simp [errW_none, errW_some] <;> rfl) | (simp only [← hji5, ← hji7]; first | rfl | (simp [errW_none, errW_some] <;> rfl)) | (simp [*, errW_none, errW_some] <;> rfl), bz⟩
      ·replace H := hN H c35
       exact absurd H (by simp)
  ·replace H := hN H c12
   obtain ⟨c12b0, c12b1⟩ := eF c12
   try first | rw [c12b0] | rw [c12b1]
   replace H := bs H
   obtain ⟨t899, A41, H⟩ := H
   obtain rfl := Option.some.inj H
   go_wp2_with (first | ((with_reducible refine gate_callee (f := 23) rfl ?_); refine goesL_ (some 43) rfl rfl Tryz.func23 (by kernel_rfl) rfl #[] rfl lz ?_; (with_reducible refine (platenlaw06_lives.calls k  t899 _ A41.out).mono ?_); rintro e w42 ⟨rfl, hb⟩; refine ⟨_, rfl, ?_⟩; replace BK893 := kN (g := gb893) (cs := #[.bool false, .bool a2_1, .bool a2_2, .bool false, .bool a2_4, .int .i64 (-1), .int .i64 a2_6, .int .i32 a2_7]) hb bk; replace HB := bN bz hb; (try clear hb); (try clear hb2); (try clear hk); (try clear hi)))
   go_ret
   exact ⟨by first | rfl | (simp [errW_none, errW_some] <;> rfl) | (simp only [← hji5, ← hji7]; first | rfl | (simp [errW_none, errW_some] <;> rfl)) | (simp [*, errW_none, errW_some] <;> rfl), bz⟩
 ·replace H := hN H c6
  exact absurd H (by simp)
end Go.Proofs.YtecpgdfnamkfdaaGreatDoor.Fn
end
section
namespace Go.Proofs.YtecpgdfnamkfdaaGreatDoor.Pure
open Go.RowKit Go.Proofs.YtecpgdfnamkfdaaGreatDoorW.PrintWords Go.Proofs.YtecpgdfnamkfdaaGreatDoorW.PrintLast Go.Proofs.YtecpgdfnamkfdaaGreatDoorW.PrintMore Go.Proofs.YtecpgdfnamkfdaaGreatDoor.Fn
set_option linter.unusedVariables false
set_option linter.unusedSimpArgs false
theorem float_fin (wide : Bool) {a p : Nat} (hb : bareN wide a = p) (hp : p < ii wide) {v : Int} (hv : codeV v ≠ 0) (plus minus sharp space zero : Bool) (wid prec : Int) :
    floatS wide a plus minus sharp space zero wid prec v = (S (endL (signL (a / tt wide % 2 == 1) 0 plus space) (restL wide p (fM (ff wide) p) ((fE (ff wide) p : Int) - (ll wide : Int)) (clamp prec) v sharp) minus zero wid), true) := by
  unfold floatS
  rw [if_neg hv, hb, if_pos hp]
theorem bare_top (wide : Bool) {p : Nat} (hp : p < tt wide) : bareN wide (p + tt wide) = p ∧ (p + tt wide) / tt wide % 2 = 1 ∧ bareN wide p = p ∧ p / tt wide % 2 = 0 := by
  have h0 := (tt_le wide).1
  refine ⟨?_, ?_, Nat.mod_eq_of_lt hp, ?_⟩
  · unfold bareN
    rw [Nat.add_mod_right]
    exact Nat.mod_eq_of_lt hp
  · rw [Nat.add_div_right _ h0, Nat.div_eq_of_lt hp]
  · rw [Nat.div_eq_of_lt hp]
theorem FloatsSigns : ∀ (a0 : Int) (a1 : Bool) (a2_0 : Bool) (a2_1 : Bool) (a2_2 : Bool) (a2_3 : Bool) (a2_4 : Bool) (a2_5 : Int) (a2_6 : Int) (a2_7 : Int), (Lit.int .u64 a0).wf = true → (Lit.int .i64 a2_5).wf = true → (Lit.int .i64 a2_6).wf = true → (Lit.int .i32 a2_7).wf = true → ∃ k, platenlaw06_FloatsSigns.f k a0 a1 a2_0 a2_1 a2_2 a2_3 a2_4 a2_5 a2_6 a2_7 = some true := by
  intro a0 wide plus minus sharp space zero wid prec v h0 _ _ _
  obtain ⟨a, rfl, ha⟩ := wf_u64 h0
  refine Ev.rounds (g := fun k => platenlaw06_FloatsSigns.f k (a : Int) wide plus minus sharp space zero wid prec v) ?_
  unfold platenlaw06_FloatsSigns.f
  obtain ⟨j, hj, ht, hw⟩ := tt_pow wide
  have htt := tt_le wide
  have hii := ii_lt wide
  rw [sized6]
  simp only [Option.bind_some]
  rw [hw, mask_one _ hj, and_mask _ _ (by omega) ha, shl_one j hj, ← ht]
  have hp : a % tt wide < tt wide := Nat.mod_lt _ htt.1
  generalize a % tt wide = p at *
  obtain ⟨b1, b2, b3, b4⟩ := bare_top wide hp
  have hor : Go.bits .or .u64 (p : Int) ((tt wide : Nat) : Int) = ((p + tt wide : Nat) : Int) := by
    rw [ht]
    exact or_add j p hj (by rw [← ht]; exact hp)
  rw [hor]
  refine Ev.congr (fun k => if_pos (by omega)) ?_
  rw [parts_eq wide p (by omega)]
  simp only [Option.bind_some]
  by_cases c : p < ii wide
  · have e1 : (partsS wide p).2.2.2 = 0 := by unfold partsS; rw [b3, if_pos c]
    refine Ev.congr (fun k => if_pos e1) ?_
    have f1 := float_ev wide (a := p) (by omega) false minus sharp false zero (-1) prec v
    have f2 := float_ev wide (a := p + tt wide) (by omega) false minus sharp false zero (-1) prec v
    have f3 := float_ev wide (a := p) (by omega) true minus sharp false zero (-1) prec v
    have f4 := float_ev wide (a := p + tt wide) (by omega) true minus sharp false zero (-1) prec v
    by_cases hv : codeV v = 0
    · have e : ∀ (x : Nat) (pl : Bool), floatS wide x pl minus sharp false zero (-1) prec v = (⟨#[]⟩, false) := by
        intro x pl
        unfold floatS
        rw [if_pos hv]
      rw [e] at f1 f2 f3 f4
      refine Ev.bind f1 (Ev.bind f2 (Ev.bind f3 (Ev.bind f4 ?_)))
      refine Ev.congr (fun k => if_neg (by simp)) ?_
      refine Ev.step (fun k => by simp only [platenlaw06_FloatsSigns.j0]; rfl) ?_
      refine Ev.congr (fun k => if_pos (by first | rfl | trivial)) ?_
      refine Ev.congr (fun k => if_pos (by first | rfl | trivial)) ?_
      have he : (⟨#[]⟩ : ByteArray).toList = ([] : List UInt8) := (empty_iff []).2 rfl
      refine Ev.congr (fun k => if_pos he) ?_
      refine Ev.congr (fun k => if_pos he) ?_
      refine Ev.congr (fun k => if_pos he) ?_
      exact Ev.congr (fun k => if_pos he) livesEnd6
    · rw [float_fin wide b3 c hv, b4] at f1 f3
      rw [float_fin wide b1 c hv, b2] at f2 f4
      rw [end_none _ _ _ _ (by decide)] at f1 f2 f3 f4
      have hb := fEl wide (Nat.le_of_lt c)
      have hb2 := fE_le wide (Nat.le_of_lt c)
      have hfit := (rest_fit wide c (m := fM (ff wide) p) (by omega) (e := (fE (ff wide) p : Int) - (ll wide : Int)) (by omega) (clamp_ok prec) v sharp).2
      generalize restL wide p (fM (ff wide) p) ((fE (ff wide) p : Int) - (ll wide : Int)) (clamp prec) v sharp = R at *
      rw [show signL ((0 : Nat) == 1) 0 false false = [] from rfl] at f1
      rw [show signL ((1 : Nat) == 1) 0 false false = [45] from rfl] at f2
      rw [show signL ((0 : Nat) == 1) 0 true false = [43] from rfl] at f3
      rw [show signL ((1 : Nat) == 1) 0 true false = [45] from rfl] at f4
      refine Ev.bind f1 (Ev.bind f2 (Ev.bind f3 (Ev.bind f4 ?_)))
      refine Ev.congr (fun k => if_pos rfl) ?_
      refine Ev.step (fun k => by simp only [platenlaw06_FloatsSigns.j0]; rfl) ?_
      refine Ev.congr (fun k => if_neg (by simp)) ?_
      refine Ev.congr (fun k => if_pos (by rw [size_S]; simp; omega)) ?_
      refine Ev.congr (fun k => if_pos (by rw [show (⟨#[45]⟩ : ByteArray) = S [45] from rfl, S_app2]; rfl)) ?_
      refine Ev.congr (fun k => if_pos (by rw [show (⟨#[43]⟩ : ByteArray) = S [43] from rfl, S_app2]; rfl)) ?_
      exact Ev.congr (fun k => if_pos (by first | rfl | trivial)) livesEnd6
  · have e1 : (partsS wide p).2.2.2 ≠ 0 := by
      unfold partsS
      rw [b3, if_neg c]
      dsimp only
      split <;> decide
    exact Ev.congr (fun k => if_neg e1) livesEnd6
end Go.Proofs.YtecpgdfnamkfdaaGreatDoor.Pure
end
