/- The law FloatsRefuses: the walks through its functions and its plain law (part 7). Own texts and the kit's printed words for this seat, without what the law does not use: put together by merge.py (of this work). -/
import Derived.Test.YtecpgdfnamkfdaaGreatDoorMFloatsRefuses6
import Derived.Handy
import Derived.Laws.RangeAny
section
namespace Go.Proofs.YtecpgdfnamkfdaaGreatDoor.Pure
open Go.RowKit Go.Proofs.YtecpgdfnamkfdaaGreatDoorW.PrintWords Go.Proofs.YtecpgdfnamkfdaaGreatDoorW.PrintLast Go.Proofs.YtecpgdfnamkfdaaGreatDoorW.PrintMore Go.Proofs.YtecpgdfnamkfdaaGreatDoor.Fn
set_option linter.unusedVariables false
set_option linter.unusedSimpArgs false
def codeV (v : Int) : Int := if v = 101 ∨ v = 69 then 1 else if v = 102 ∨ v = 70 then 2 else if v = 103 ∨ v = 71 ∨ v = 118 then 3 else if v = 98 then 4 else if v = 120 ∨ v = 88 then 5 else 0
theorem chosen_at (v : Int) (k : Nat) : floats_chosen.f (k + 3) v = some (codeV v) := by
  unfold codeV floats_chosen.f
  simp only [floats_chosen.j0, floats_chosen.j1, floats_chosen.j2]
  by_cases d1 : v = 101
  · subst d1; rfl
  by_cases d2 : v = 69
  · subst d2; rfl
  by_cases d3 : v = 102
  · subst d3; rfl
  by_cases d4 : v = 70
  · subst d4; rfl
  by_cases d5 : v = 103
  · subst d5; rfl
  by_cases d6 : v = 71
  · subst d6; rfl
  by_cases d7 : v = 118
  · subst d7; rfl
  by_cases d8 : v = 98
  · subst d8; rfl
  by_cases d9 : v = 120
  · subst d9; rfl
  by_cases d10 : v = 88
  · subst d10; rfl
  simp [d1, d2, d3, d4, d5, d6, d7, d8, d9, d10]
theorem chosen_ev (v : Int) : Ev (fun k => floats_chosen.f k v) (codeV v) :=
  ⟨3, fun k hk => by obtain ⟨j, rfl⟩ : ∃ j, k = j + 3 := ⟨k - 3, by omega⟩; exact chosen_at v j⟩
theorem codeV_le (v : Int) : 0 ≤ codeV v ∧ codeV v ≤ 5 := by
  unfold codeV
  repeat' split
  all_goals decide
def signL (neg : Bool) (kind : Int) (plus space : Bool) : List UInt8 := if neg = true ∧ kind ≠ 2 then [45] else if plus then [43] else if space then [32] else if kind = 1 then [43] else []
theorem signL_ok (neg : Bool) (kind : Int) (plus space : Bool) : (signL neg kind plus space).length ≤ 1 ∧ Asc (signL neg kind plus space) := by
  unfold signL
  repeat' split
  all_goals exact ⟨by decide, by decide⟩
def clamp (prec : Int) : Int := max (-1) (min prec 1000)
theorem clamp_ok (prec : Int) : -1 ≤ clamp prec ∧ clamp prec ≤ 1000 := by unfold clamp; omega
def restL (wide : Bool) (p m : Nat) (e prec v : Int) (sharp : Bool) : List UInt8 :=
  if codeV v = 1 then scaledL (sharp && v != 118) (bigV v) (exD m e) (six prec)
  else if codeV v = 2 then fixedL (sharp && v != 118) (exD m e) (six prec)
  else if codeV v = 3 then genOf wide p m e prec (sharp && v != 118) (bigV v)
  else if codeV v = 4 then binL m e
  else hexL m e prec (sharp && v != 118) (v == 88)
def Fit (l : List UInt8) : Prop := Asc l ∧ l.length ≤ 100000
theorem sci_fit {l : List UInt8} (h : Asc l) (hl : l.length ≤ 50000) (dot big : Bool) (e : Int) : Fit (sciL dot big l e) := by
  refine ⟨sciL_asc h dot big e, ?_⟩
  have h1 := ptL_len dot (l.take 1) (l.drop 1)
  have h2 := powL_len (eMark big) (e := e) (least := 2) (by decide)
  have hm : (eMark big).length = 1 := by cases big <;> rfl
  rw [List.length_take, List.length_drop] at h1
  unfold sciL
  rw [List.length_append]
  omega
theorem around_fit {l : List UInt8} (h : Asc l) (hl : l.length ≤ 20000) (dot : Bool) {p : Int} (hp : -20000 ≤ p ∧ p ≤ 20000) : Fit (aroundL dot l p) := by
  refine ⟨aroundL_asc h dot p, ?_⟩
  have hf := fillL_len l p
  unfold aroundL
  split
  · have h1 := ptL_len dot [48] (zsL (-p).toNat ++ l)
    rw [List.length_append, zsL_len] at h1
    simp at h1
    omega
  · have h1 := ptL_len dot ((fillL l p).take p.toNat) ((fillL l p).drop p.toNat)
    rw [List.length_take, List.length_drop] at h1
    omega
theorem scaled_fit {v : List UInt8 × Int} (h : Near v) (dot big : Bool) {p : Int} (hp : 0 ≤ p ∧ p ≤ 1000) : Fit (scaledL dot big v p) := by
  have hb := round_bound h (p + 1)
  have hf := fillL_len (roundN v.1 v.2 (p + 1)).1 (p + 1)
  exact sci_fit (fillL_asc (round_form h.form (p + 1)).1.asc _) (by omega) dot big _
theorem fixed_fit {v : List UInt8 × Int} (h : Near v) (dot : Bool) {p : Int} (hp : 0 ≤ p ∧ p ≤ 1000) : Fit (fixedL dot v p) := by
  have hb := round_bound h (v.2 + p)
  have ha := (round_form h.form (v.2 + p)).1.asc
  unfold fixedL
  generalize roundN v.1 v.2 (v.2 + p) = d at *
  split
  · refine ⟨ptL_asc (by decide) (zsL_asc _) dot, ?_⟩
    have h1 := ptL_len dot [48] (zsL p.toNat)
    rw [zsL_len] at h1
    simp at h1
    omega
  · split
    · refine ⟨ptL_asc (by decide) (fillL_asc ((zsL_asc _).app ha) _) dot, ?_⟩
      have h1 := ptL_len dot [48] (fillL (zsL (-d.2).toNat ++ d.1) p)
      have hf := fillL_len (zsL (-d.2).toNat ++ d.1) p
      rw [List.length_append, zsL_len] at hf
      simp at h1
      omega
    · have hf := fillL_len d.1 (d.2 + p)
      exact around_fit (fillL_asc ha _) (by omega) dot (by omega)
theorem gen_fit {d : List UInt8 × Int} (ha : Asc d.1) (hd : d.1.length ≤ 2000 ∧ -4000 ≤ d.2 ∧ d.2 ≤ 1500) (dot big : Bool) {keep top : Int} (hk : 1 ≤ keep ∧ keep ≤ 1000) : Fit (genL dot big d keep top) := by
  have hfb := firstL_bound (d := d) hd.2
  unfold genL
  dsimp only
  have hl : Asc (if d.1 = [] then [48] else d.1) ∧ (if d.1 = [] then ([48] : List UInt8) else d.1).length ≤ 2000 := by
    split
    · exact ⟨by decide, by decide⟩
    · exact ⟨ha, hd.1⟩
  generalize (if d.1 = [] then ([48] : List UInt8) else d.1) = l at *
  have hm : Asc (if dot = true then fillL l keep else l) ∧ (if dot = true then fillL l keep else l).length ≤ 3000 := by
    have hf := fillL_len l keep
    split
    · exact ⟨fillL_asc hl.1 _, by omega⟩
    · exact ⟨hl.1, by omega⟩
  split
  · exact sci_fit hm.1 (by omega) dot big _
  · exact around_fit hm.1 (by omega) dot (by omega)
theorem shortL_ok (wide : Bool) {p : Nat} (hp : p < ii wide) : InForm (shortL wide p).1 (shortL wide p).2 ∧ (shortL wide p).1.length ≤ 2000 ∧ -4000 ≤ (shortL wide p).2 ∧ (shortL wide p).2 ≤ 1500 := by
  unfold shortL
  by_cases c : p = 0
  · rw [if_pos c]; exact ⟨⟨AllD.nil, fun c t e => (by cases e), rfl, fun _ => rfl⟩, by decide, by decide, by decide⟩
  · rw [if_neg c]
    obtain ⟨M, h1, h2, h3⟩ := short_spec wide p
    have hv := exV_val wide hp
    have hl := hv.len
    have hlo := hv.lo
    have hhi := hv.hi
    rcases best_some h2 with ⟨_, e⟩ | ⟨hn, u, hu, e, _⟩
    · rw [e]; exact ⟨hv.form, by omega, by omega, by omega⟩
    · have hc := cU_lt hv M hn
      have hu1 : u < 10 ^ (M + 1) := by
        rw [Nat.pow_succ]
        have : 1 ≤ 10 ^ M := Nat.pow_pos (by decide)
        rcases hu with hu | hu <;> omega
      have hb := decOf_bound hu1 (cE (exV wide p) M)
      rw [e]
      unfold cE at hb ⊢
      exact ⟨inForm_decOf _ _, by omega, by omega, by omega⟩
theorem genOf_fit (wide : Bool) {p : Nat} (hp : p < ii wide) {m : Nat} (hm : m < 18446744073709551616) {e : Int} (h : -1200 ≤ e ∧ e ≤ 1200) {prec : Int} (hq : -1 ≤ prec ∧ prec ≤ 1000) (dot big : Bool) : Fit (genOf wide p m e prec dot big) := by
  unfold genOf
  split
  · have := shortL_ok wide hp
    exact gen_fit this.1.1.asc this.2 dot big (by decide)
  · have hn := exD_near hm h
    have hb := round_bound hn (max prec 1)
    exact gen_fit (round_form hn.form _).1.asc (by omega) dot big (by omega)
theorem bin_fit (m : Nat) (e : Int) : Fit (binL m e) := by
  refine ⟨(bT_asc (by decide) m).app (powL_asc (by decide) e 1), ?_⟩
  have h1 := bT_len 10 m
  have h2 := powL_len ([112] : List UInt8) (e := e) (least := 1) (by decide)
  unfold binL
  rw [List.length_append]
  simp at h2
  omega
set_option maxRecDepth 100000 in
theorem upper_asc (b : UInt8) (h : b.toNat < 128) : (Lib.upperB b).toNat < 128 := by
  have key : ∀ n : Fin 256, n.val < 128 → (Lib.upperB (UInt8.ofNat n.val)).toNat < 128 := by decide
  have := key ⟨b.toNat, b.toNat_lt⟩ h
  rwa [UInt8.ofNat_toNat] at this
theorem hexEnd_fit {lead ds : List UInt8} (hl : lead.length ≤ 10 ∧ Asc lead) (hd : ds.length ≤ 2000 ∧ Asc ds) (dot up : Bool) (x : Int) : Fit (hexEnd dot up lead ds x) := by
  have h1 := ptL_len dot lead ds
  have h2 := powL_len ([112] : List UInt8) (e := x) (least := 2) (by decide)
  have ha : Asc ([48, 120] ++ (ptL dot lead ds ++ powL [112] x 2)) := Asc.app (by decide) ((ptL_asc hl.2 hd.2 dot).app (powL_asc (by decide) x 2))
  have hlen : ([48, 120] ++ (ptL dot lead ds ++ powL [112] x 2)).length ≤ 100000 := by simp at h2 ⊢; omega
  unfold hexEnd
  split
  · refine ⟨fun c hc => ?_, by unfold Lib.toUpperA; rw [List.length_map]; exact hlen⟩
    unfold Lib.toUpperA at hc
    obtain ⟨b, hb, rfl⟩ := List.mem_map.1 hc
    exact upper_asc b (ha b hb)
  · exact ⟨ha, hlen⟩
theorem hexTail_fit (dot up : Bool) {lead : List UInt8} (hl : lead.length ≤ 10 ∧ Asc lead) {part : Nat} (hp : part ≤ 18446744073709551615) (x : Int) {prec : Int} (hq : -1 ≤ prec ∧ prec ≤ 1000) : Fit (hexTail dot up lead part x prec) := by
  have hs := sixL_len hp
  unfold hexTail
  split
  · exact hexEnd_fit hl ⟨by have := rz_len (sixL part); omega, rz_asc (six_asc _)⟩ dot up x
  · split
    · have hf := fillL_len (sixL part) prec
      exact hexEnd_fit hl ⟨by omega, fillL_asc (six_asc _) _⟩ dot up x
    · unfold hexMid
      dsimp only
      refine hexEnd_fit hl ?_ dot up _
      split
      · exact ⟨by decide, Asc.nil⟩
      · refine ⟨?_, (six_asc _).take _⟩
        rw [List.length_take]
        omega
theorem hex_fit (m : Nat) (e : Int) {prec : Int} (hq : -1 ≤ prec ∧ prec ≤ 1000) (dot up : Bool) : Fit (hexL m e prec dot up) := by
  unfold hexL
  split
  · exact hexTail_fit dot up ⟨by decide, by decide⟩ (by decide) _ hq
  · exact hexTail_fit dot up ⟨by decide, by decide⟩ (by omega) _ hq
theorem six_ok {prec : Int} (hq : -1 ≤ prec ∧ prec ≤ 1000) : 0 ≤ six prec ∧ six prec ≤ 1000 := by unfold six; split <;> omega
theorem rest_fit (wide : Bool) {p : Nat} (hp : p < ii wide) {m : Nat} (hm : m < 18446744073709551616) {e : Int} (h : -1200 ≤ e ∧ e ≤ 1200) {prec : Int} (hq : -1 ≤ prec ∧ prec ≤ 1000) (v : Int) (sharp : Bool) : Fit (restL wide p m e prec v sharp) := by
  have hn := exD_near hm h
  unfold restL
  repeat' split
  · exact scaled_fit hn _ _ (six_ok hq)
  · exact fixed_fit hn _ (six_ok hq)
  · exact genOf_fit wide hp hm h hq _ _
  · exact bin_fit m e
  · exact hex_fit m e hq _ _
def endL (sign rest : List UInt8) (minus zero : Bool) (wid : Int) : List UInt8 :=
  padL (sign ++ (if zero && !minus then List.replicate (max 0 (min wid 1000) - sign.length - rest.length).toNat 48 ++ rest else rest)) minus false wid
theorem end_ev {sign rest : List UInt8} (hs : sign.length ≤ 1 ∧ Asc sign) (hr : Fit rest) (plus minus sharp space zero : Bool) (wid prec v : Int) :
    Ev (fun k => floats_Float.j3 k (S sign) (S rest) plus minus sharp space zero wid prec v) (S (endL sign rest minus zero wid), true) := by
  have ha := hr.1
  have hl := hr.2
  have key : ∀ u : Bool, Ev (fun k => floats_Float.j4 k (S sign) (S rest) u plus minus sharp space zero wid prec v) (S (padL (sign ++ (if u then List.replicate (max 0 (min wid 1000) - sign.length - rest.length).toNat 48 ++ rest else rest)) minus false wid), true) := by
    intro u
    refine Ev.step (fun k => by simp only [floats_Float.j4]; rfl) ?_
    cases u with
    | true =>
      refine Ev.congr (fun k => if_pos rfl) ?_
      rw [if_pos rfl, size_S, size_S, mx_eq, mn_eq, w64 (x := max 0 (min wid 1000) - (sign.length : Int)) (by omega) (by omega), w64 (by omega) (by omega)]
      have hf := fill_eq 48 (max 0 (min wid 1000) - (sign.length : Int) - (rest.length : Int))
      rw [show (((48 : UInt8).toNat : Nat) : Int) = 48 from rfl, show (min (max 0 (min wid 1000) - (sign.length : Int) - (rest.length : Int)) 1000).toNat = (max 0 (min wid 1000) - (sign.length : Int) - (rest.length : Int)).toNat by omega] at hf
      rw [hf]
      simp only [Option.bind_some]
      generalize hz : (max 0 (min wid 1000) - (sign.length : Int) - (rest.length : Int)).toNat = n
      have hn : n ≤ 1000 := by omega
      refine Ev.congr (fun k => if_pos (by rw [size_S, List.length_replicate]; omega)) ?_
      rw [S_app2]
      refine Ev.congr (fun k => if_pos (by rw [size_S, List.length_append, List.length_replicate]; omega)) ?_
      rw [S_app2, pad_eq (hs.2.app ((Asc.rep n (by decide)).app ha)) (by rw [List.length_append, List.length_append, List.length_replicate]; omega)]
      exact Ev.now _
    | false =>
      refine Ev.congr (fun k => if_neg (by simp)) ?_
      show Ev _ (S (padL (sign ++ rest) minus false wid), true)
      refine Ev.congr (fun k => if_pos (by rw [size_S, size_S]; omega)) ?_
      rw [S_app2, pad_eq (hs.2.app ha) (by rw [List.length_append]; omega)]
      exact Ev.now _
  refine Ev.step (fun k => by simp only [floats_Float.j3]; rfl) ?_
  unfold endL
  cases zero with
  | true => exact Ev.congr (fun k => if_pos rfl) (key (!minus))
  | false => exact Ev.congr (fun k => if_neg (by simp)) (key false)
def floatS (wide : Bool) (a : Nat) (plus minus sharp space zero : Bool) (wid prec v : Int) : ByteArray × Bool :=
  if codeV v = 0 then (⟨#[]⟩, false)
  else if bareN wide a < ii wide then (S (endL (signL (a / tt wide % 2 == 1) 0 plus space) (restL wide (bareN wide a) (fM (ff wide) (bareN wide a)) ((fE (ff wide) (bareN wide a) : Int) - (ll wide : Int)) (clamp prec) v sharp) minus zero wid), true)
  else if bareN wide a = ii wide then (S (endL (signL (a / tt wide % 2 == 1) 1 plus space) [73, 110, 102] minus false wid), true)
  else (S (endL (signL (a / tt wide % 2 == 1) 2 plus space) [78, 97, 78] minus false wid), true)
theorem sign_ev {R : ByteArray × Bool} (x0 x1 x9 x10 x11 x12 : Int) (neg plus minus sharp space zero : Bool) (wid prec v : Int)
    (h : Ev (fun k => floats_Float.j2 k x0 x1 x9 x10 x11 x12 (S (signL neg x11 plus space)) plus minus sharp space zero wid prec v) R) (u : Bool) (hu : u = decide (neg = true ∧ x11 ≠ 2)) :
    Ev (fun k => floats_Float.j1 k x0 x1 x9 x10 x11 x12 (⟨#[]⟩ : ByteArray) u plus minus sharp space zero wid prec v) R := by
  unfold signL at h
  refine Ev.step (fun k => by simp only [floats_Float.j1]; rfl) ?_
  by_cases c : neg = true ∧ x11 ≠ 2
  · have : u = true := by rw [hu]; exact decide_eq_true c
    subst this
    rw [if_pos c] at h
    exact Ev.congr (fun k => if_pos rfl) h
  · have : u = false := by rw [hu]; exact decide_eq_false c
    subst this
    rw [if_neg c] at h
    refine Ev.congr (fun k => if_neg (by simp)) ?_
    cases plus with
    | true => exact Ev.congr (fun k => if_pos rfl) h
    | false =>
      refine Ev.congr (fun k => if_neg (by simp)) ?_
      cases space with
      | true => exact Ev.congr (fun k => if_pos rfl) h
      | false =>
        refine Ev.congr (fun k => if_neg (by simp)) ?_
        by_cases c1 : x11 = 1
        · rw [if_neg (by simp), if_neg (by simp), if_pos c1] at h
          exact Ev.congr (fun k => if_pos c1) h
        · rw [if_neg (by simp), if_neg (by simp), if_neg c1] at h
          exact Ev.congr (fun k => if_neg c1) h
theorem mxn_clamp (prec : Int) : mx (-1) (mn prec 1000) = clamp prec := by rw [mx_eq, mn_eq]; rfl
theorem rest_ev (wide : Bool) {a p : Nat} (ha : a < 18446744073709551616) (hb : bareN wide a = p) (hp : p < ii wide) {m : Nat} (hm : m < 18446744073709551616) {e : Int} (h : -1200 ≤ e ∧ e ≤ 1200) {sign : List UInt8} (hs : sign.length ≤ 1 ∧ Asc sign) (plus minus sharp space zero : Bool) (wid prec v : Int) (hc : codeV v ≠ 0) :
    Ev (fun k => floats_Float.j2 k (a : Int) (szB wide) (m : Int) e 0 (codeV v) (S sign) plus minus sharp space zero wid prec v) (S (endL sign (restL wide p m e (clamp prec) v sharp) minus zero wid), true) := by
  have hq := clamp_ok prec
  have hfit := rest_fit wide hp hm h hq v sharp
  have hend := end_ev hs hfit plus minus sharp space zero wid prec v
  have hsl := (shortL_ok wide hp).2
  have hcl := codeV_le v
  refine Ev.step (fun k => by simp only [floats_Float.j2]; rfl) ?_
  refine Ev.congr (fun k => if_neg (by decide)) ?_
  refine Ev.congr (fun k => if_neg (by decide)) ?_
  rw [mxn_clamp]
  have way : ∀ dot : Bool, dot = (sharp && v != 118) → Ev (fun k => if codeV v = 1 then ((floats_float_scaled.f k (a : Int) (szB wide) (m : Int) e (clamp prec) dot v).bind fun t456 => (floats_Float.j3 k (S sign) t456 plus minus sharp space zero wid prec v)) else (if codeV v = 2 then ((floats_float_fixed.f k (a : Int) (szB wide) (m : Int) e (clamp prec) dot v).bind fun t457 => (floats_Float.j3 k (S sign) t457 plus minus sharp space zero wid prec v)) else (if codeV v = 3 then ((floats_float_general.f k (a : Int) (szB wide) (m : Int) e (clamp prec) dot v).bind fun t458 => (floats_Float.j3 k (S sign) t458 plus minus sharp space zero wid prec v)) else (if codeV v = 4 then ((floats_float_binary.f (a : Int) (szB wide) (m : Int) e (clamp prec) dot v).bind fun t459 => (floats_Float.j3 k (S sign) t459 plus minus sharp space zero wid prec v)) else (if codeV v = 5 then ((floats_float_hex.f k (a : Int) (szB wide) (m : Int) e (clamp prec) dot v).bind fun t460 => (floats_Float.j3 k (S sign) t460 plus minus sharp space zero wid prec v)) else none)))))
      (S (endL sign (restL wide p m e (clamp prec) v sharp) minus zero wid), true) := by
    intro dot hd
    unfold restL at hend ⊢
    rw [← hd] at hend ⊢
    by_cases c1 : codeV v = 1
    · rw [if_pos c1] at hend ⊢
      exact Ev.congr (fun k => if_pos c1) (Ev.bind (scaled_ev _ _ hm h hq v dot) hend)
    · rw [if_neg c1] at hend ⊢
      refine Ev.congr (fun k => if_neg c1) ?_
      by_cases c2 : codeV v = 2
      · rw [if_pos c2] at hend ⊢
        exact Ev.congr (fun k => if_pos c2) (Ev.bind (fixed_ev _ _ hm h hq v dot) hend)
      · rw [if_neg c2] at hend ⊢
        refine Ev.congr (fun k => if_neg c2) ?_
        by_cases c3 : codeV v = 3
        · rw [if_pos c3] at hend ⊢
          exact Ev.congr (fun k => if_pos c3) (Ev.bind (gen_ev wide ha hb hp hsl hm h hq v dot) hend)
        · rw [if_neg c3] at hend ⊢
          refine Ev.congr (fun k => if_neg c3) ?_
          by_cases c4 : codeV v = 4
          · rw [if_pos c4] at hend ⊢
            refine Ev.congr (fun k => if_pos c4) ?_
            rw [binary_eq _ _ _ _ _ (by omega) (by omega)]
            exact hend
          · rw [if_neg c4] at hend ⊢
            refine Ev.congr (fun k => if_neg c4) ?_
            exact Ev.congr (fun k => if_pos (by omega)) (Ev.bind (hex_ev _ _ v dot hm h hq) hend)
  cases sharp with
  | true => exact Ev.congr (fun k => if_pos rfl) (way (v != 118) (by simp))
  | false => exact Ev.congr (fun k => if_neg (by simp)) (way false rfl)
theorem float_ev (wide : Bool) {a : Nat} (ha : a < 18446744073709551616) (plus minus sharp space zero : Bool) (wid prec v : Int) :
    Ev (fun k => floats_Float.f k (a : Int) (szB wide) plus minus sharp space zero wid prec v) (floatS wide a plus minus sharp space zero wid prec v) := by
  have hi := ii_lt wide
  unfold floats_Float.f floatS
  rw [parts_eq wide a ha]
  simp only [Option.bind_some]
  refine Ev.bind (chosen_ev v) ?_
  have hk : ∀ x : Int, x = (partsS wide a).2.2.2 → x ≠ 3 := by
    intro x hx
    rw [hx]
    unfold partsS
    split
    · exact (by decide : (0 : Int) ≠ 3)
    · dsimp only; split <;> decide
  refine Ev.congr (fun k => if_neg (hk _ rfl)) ?_
  refine Ev.step (fun k => by simp only [floats_Float.j0]; rfl) ?_
  by_cases c0 : codeV v = 0
  · rw [if_pos c0]
    exact Ev.congr (fun k => if_pos (beq_iff_eq.mpr c0)) (Ev.now _)
  · rw [if_neg c0]
    refine Ev.congr (fun k => if_neg (by rw [beq_eq_false_iff_ne.mpr c0]; simp)) ?_
    have signs : ∀ {R : ByteArray × Bool} (x9 x10 x11 : Int) (neg : Bool), Ev (fun k => floats_Float.j2 k (a : Int) (szB wide) x9 x10 x11 (codeV v) (S (signL neg x11 plus space)) plus minus sharp space zero wid prec v) R →
        Ev (fun k => if neg = true then (floats_Float.j1 k (a : Int) (szB wide) x9 x10 x11 (codeV v) (⟨#[]⟩ : ByteArray) (x11 != 2) plus minus sharp space zero wid prec v) else (floats_Float.j1 k (a : Int) (szB wide) x9 x10 x11 (codeV v) (⟨#[]⟩ : ByteArray) false plus minus sharp space zero wid prec v)) R := by
      intro R x9 x10 x11 neg h
      cases neg with
      | true => exact Ev.congr (fun k => if_pos rfl) (sign_ev _ _ _ _ _ _ true plus minus sharp space zero wid prec v h _ (by rw [Bool.eq_iff_iff]; simp))
      | false => exact Ev.congr (fun k => if_neg (by simp)) (sign_ev _ _ _ _ _ _ false plus minus sharp space zero wid prec v h _ (by rw [Bool.eq_iff_iff]; simp))
    by_cases c1 : bareN wide a < ii wide
    · rw [if_pos c1]
      have hb := fEl wide (Nat.le_of_lt c1)
      have hb2 := fE_le wide (Nat.le_of_lt c1)
      have e1 : partsS wide a = ((a / tt wide % 2 == 1 : Bool), (fM (ff wide) (bareN wide a) : Int), (fE (ff wide) (bareN wide a) : Int) - (ll wide : Int), 0) := by
        unfold partsS; rw [if_pos c1]
      rw [e1]
      exact signs _ _ _ _ (rest_ev (m := fM (ff wide) (bareN wide a)) (e := (fE (ff wide) (bareN wide a) : Int) - (ll wide : Int)) wide ha rfl c1 (by omega) (by omega) (signL_ok _ _ _ _) plus minus sharp space zero wid prec v c0)
    · rw [if_neg c1]
      have e1 : partsS wide a = ((a / tt wide % 2 == 1 : Bool), 0, 0, if bareN wide a = ii wide then 1 else 2) := by
        unfold partsS; rw [if_neg c1]
      rw [e1]
      by_cases c2 : bareN wide a = ii wide
      · rw [if_pos c2, if_pos c2]
        refine signs _ _ _ _ ?_
        refine Ev.step (fun k => by simp only [floats_Float.j2]; rfl) ?_
        refine Ev.congr (fun k => if_neg (by decide)) ?_
        refine Ev.congr (fun k => if_pos (by first | trivial | rfl)) ?_
        exact end_ev (rest := [73, 110, 102]) (signL_ok _ _ _ _) ⟨by decide, by decide⟩ plus minus sharp space false wid prec v
      · rw [if_neg c2, if_neg c2]
        refine signs _ _ _ _ ?_
        refine Ev.step (fun k => by simp only [floats_Float.j2]; rfl) ?_
        refine Ev.congr (fun k => if_pos (by first | trivial | rfl)) ?_
        exact end_ev (rest := [78, 97, 78]) (signL_ok _ _ _ _) ⟨by decide, by decide⟩ plus minus sharp space false wid prec v
theorem float_no (a : Int) {n : Int} (h1 : n ≠ 32) (h2 : n ≠ 64) (plus minus sharp space zero : Bool) (wid prec v : Int) :
    Ev (fun k => floats_Float.f k a n plus minus sharp space zero wid prec v) (⟨#[]⟩, false) := by
  unfold floats_Float.f
  rw [parts_no a h1 h2]
  simp only [Option.bind_some]
  refine Ev.bind (chosen_ev v) ?_
  refine Ev.congr (fun k => if_pos (by first | trivial | rfl)) ?_
  refine Ev.step (fun k => by simp only [floats_Float.j0]; rfl) ?_
  exact Ev.congr (fun k => if_pos trivial) (Ev.now _)
end Go.Proofs.YtecpgdfnamkfdaaGreatDoor.Pure
end
section
namespace Go.Proofs.YtecpgdfnamkfdaaGreatDoor.Fn
open Go.RowKit Go.Proofs.YtecpgdfnamkfdaaGreatDoorW.PrintWords Go.Proofs.YtecpgdfnamkfdaaGreatDoorW.PrintLast Go.Proofs.YtecpgdfnamkfdaaGreatDoorW.PrintMore
attribute [local go_sem] fnW_0 fnW_1 fnW_2 fnW_3 fnW_4 fnW_5 fnW_guard fnW_eql max2_int min2_int max_two min_two
set_option linter.unusedVariables false
set_option linter.unusedSimpArgs false
def platenlaw06_lives.f (k : Nat)  : Option (Bool) := (platenlaw06_bare.f 101).bind fun bt820 => ((floats_Float.f k 4609434218613702656 64 bt820.1 bt820.2.1 bt820.2.2.1 bt820.2.2.2.1 bt820.2.2.2.2.1 bt820.2.2.2.2.2.1 bt820.2.2.2.2.2.2.1 bt820.2.2.2.2.2.2.2).bind fun bt828 => ((platenlaw06_bare.f 118).bind fun bt830 => ((floats_Float.f k 4591870180066957722 64 bt830.1 bt830.2.1 bt830.2.2.1 bt830.2.2.2.1 bt830.2.2.2.2.1 bt830.2.2.2.2.2.1 bt830.2.2.2.2.2.2.1 bt830.2.2.2.2.2.2.2).bind fun bt838 => ((platenlaw06_bare.f 100).bind fun bt840 => ((floats_Float.f k 0 64 bt840.1 bt840.2.1 bt840.2.2.1 bt840.2.2.2.1 bt840.2.2.2.2.1 bt840.2.2.2.2.2.1 bt840.2.2.2.2.2.2.1 bt840.2.2.2.2.2.2.2).bind fun bt848 => (if bt828.2 = true then (if bt838.2 = true then (if bt848.2 = true then (some false) else (if bt828.1.toList = ([49, 46, 53, 48, 48, 48, 48, 48, 101, 43, 48, 48] : List UInt8) then (some (bt838.1.toList == ([48, 46, 49] : List UInt8))) else (some false))) else (some false)) else (some false)))))))
set_option maxHeartbeats 8000000 in
set_option maxRecDepth 100000 in
theorem platenlaw06_lives.calls (k : Nat)  (r : Bool) (w : World) (h : platenlaw06_lives.f k  = some r) :
  Calls Tryz.prog 23 #[] w fun e w' => e = .returned (.bool r) ∧ Below w.heap.size w w' := by
 have HB := Aside0.mk (Below.refl w.heap.size w)
 have H : ((platenlaw06_bare.f 101).bind fun bt820 => ((floats_Float.f k 4609434218613702656 64 bt820.1 bt820.2.1 bt820.2.2.1 bt820.2.2.2.1 bt820.2.2.2.2.1 bt820.2.2.2.2.2.1 bt820.2.2.2.2.2.2.1 bt820.2.2.2.2.2.2.2).bind fun bt828 => ((platenlaw06_bare.f 118).bind fun bt830 => ((floats_Float.f k 4591870180066957722 64 bt830.1 bt830.2.1 bt830.2.2.1 bt830.2.2.2.1 bt830.2.2.2.2.1 bt830.2.2.2.2.2.1 bt830.2.2.2.2.2.2.1 bt830.2.2.2.2.2.2.2).bind fun bt838 => ((platenlaw06_bare.f 100).bind fun bt840 => ((floats_Float.f k 0 64 bt840.1 bt840.2.1 bt840.2.2.1 bt840.2.2.2.1 bt840.2.2.2.2.1 bt840.2.2.2.2.2.1 bt840.2.2.2.2.2.2.1 bt840.2.2.2.2.2.2.2).bind fun bt848 => (if bt828.2 = true then (if bt838.2 = true then (if bt848.2 = true then (some false) else (if bt828.1.toList = ([49, 46, 53, 48, 48, 48, 48, 48, 101, 43, 48, 48] : List UInt8) then (some (bt838.1.toList == ([48, 46, 49] : List UInt8))) else (some false))) else (some false)) else (some false)))))))) = some r := h
 clear h
 replace H := bs H
 obtain ⟨⟨t820, t821, t822, t823, t824, t825, t826, t827⟩, A1, H⟩ := H
 dsimp only at H
 replace H := bs H
 obtain ⟨⟨t828, t829⟩, A2, H⟩ := H
 dsimp only at H
 replace H := bs H
 obtain ⟨⟨t830, t831, t832, t833, t834, t835, t836, t837⟩, A3, H⟩ := H
 dsimp only at H
 replace H := bs H
 obtain ⟨⟨t838, t839⟩, A4, H⟩ := H
 dsimp only at H
 replace H := bs H
 obtain ⟨⟨t840, t841, t842, t843, t844, t845, t846, t847⟩, A5, H⟩ := H
 dsimp only at H
 replace H := bs H
 obtain ⟨⟨t848, t849⟩, A6, H⟩ := H
 dsimp only at H
 by_cases c7 : t829 = true
 ·subst c7
  replace H := hT H
  by_cases c8 : t839 = true
  ·subst c8
   replace H := hT H
   by_cases c9 : t849 = true
   ·subst c9
    replace H := hT H
    obtain rfl := Option.some.inj H
    go_enter Tryz.func23, Tryz.ntmps23
    go_wp2_with (first | ((with_reducible refine gate_callee (f := 30) rfl ?_); refine goesL_ (some 8) rfl rfl Tryz.func30 (by kernel_rfl) rfl #[.int .i32 101] rfl lz ?_; (with_reducible refine (platenlaw06_bare.calls 101 t820 t821 t822 t823 t824 t825 t826 t827 _ A1.out).mono ?_); rintro e w10 ⟨rfl, hb⟩; refine ⟨_, rfl, ?_⟩; replace HB := bN bz hb; (try clear hb); (try clear hb2); (try clear hk); (try clear hi)) | ((with_reducible refine gate_callee (f := 25) rfl ?_); refine goesL_ (some 9) rfl rfl Tryz.func25 (by kernel_rfl) rfl #[.int .u64 4609434218613702656, .int .i64 64, .agg #[.bool t820, .bool t821, .bool t822, .bool t823, .bool t824, .int .i64 t825, .int .i64 t826, .int .i32 t827]] rfl lz ?_; (with_reducible refine (floats_Float.calls k 4609434218613702656 64 t820 t821 t822 t823 t824 t825 t826 t827 t828 true _ A2.out).mono ?_); rintro e w11 ⟨rfl, hb⟩; refine ⟨_, rfl, ?_⟩; replace HB := bN bz hb; (try clear hb); (try clear hb2); (try clear hk); (try clear hi)) | ((with_reducible refine gate_callee (f := 30) rfl ?_); refine goesL_ (some 13) rfl rfl Tryz.func30 (by kernel_rfl) rfl #[.int .i32 118] rfl lz ?_; (with_reducible refine (platenlaw06_bare.calls 118 t830 t831 t832 t833 t834 t835 t836 t837 _ A3.out).mono ?_); rintro e w12 ⟨rfl, hb⟩; refine ⟨_, rfl, ?_⟩; replace HB := bN bz hb; (try clear hb); (try clear hb2); (try clear hk); (try clear hi)) | ((with_reducible refine gate_callee (f := 25) rfl ?_); refine goesL_ (some 14) rfl rfl Tryz.func25 (by kernel_rfl) rfl #[.int .u64 4591870180066957722, .int .i64 64, .agg #[.bool t830, .bool t831, .bool t832, .bool t833, .bool t834, .int .i64 t835, .int .i64 t836, .int .i32 t837]] rfl lz ?_; (with_reducible refine (floats_Float.calls k 4591870180066957722 64 t830 t831 t832 t833 t834 t835 t836 t837 t838 true _ A4.out).mono ?_); rintro e w13 ⟨rfl, hb⟩; refine ⟨_, rfl, ?_⟩; replace HB := bN bz hb; (try clear hb); (try clear hb2); (try clear hk); (try clear hi)) | ((with_reducible refine gate_callee (f := 30) rfl ?_); refine goesL_ (some 18) rfl rfl Tryz.func30 (by kernel_rfl) rfl #[.int .i32 100] rfl lz ?_; (with_reducible refine (platenlaw06_bare.calls 100 t840 t841 t842 t843 t844 t845 t846 t847 _ A5.out).mono ?_); rintro e w14 ⟨rfl, hb⟩; refine ⟨_, rfl, ?_⟩; replace HB := bN bz hb; (try clear hb); (try clear hb2); (try clear hk); (try clear hi)) | ((with_reducible refine gate_callee (f := 25) rfl ?_); refine goesL_ (some 19) rfl rfl Tryz.func25 (by kernel_rfl) rfl #[.int .u64 0, .int .i64 64, .agg #[.bool t840, .bool t841, .bool t842, .bool t843, .bool t844, .int .i64 t845, .int .i64 t846, .int .i32 t847]] rfl lz ?_; (with_reducible refine (floats_Float.calls k 0 64 t840 t841 t842 t843 t844 t845 t846 t847 t848 true _ A6.out).mono ?_); rintro e w15 ⟨rfl, hb⟩; refine ⟨_, rfl, ?_⟩; replace HB := bN bz hb; (try clear hb); (try clear hb2); (try clear hk); (try clear hi)))
    go_ret
    exact ⟨ez, bz⟩
   ·replace c9 := Bool.eq_false_iff.mpr c9
    subst c9
    replace H := hF H
    by_cases c16 : t828.toList = ([49, 46, 53, 48, 48, 48, 48, 48, 101, 43, 48, 48] : List UInt8)
    ·replace H := hE H c16
     have c16b0 : (t828.toList == ([49, 46, 53, 48, 48, 48, 48, 48, 101, 43, 48, 48] : List UInt8)) = true := beq_iff_eq.mpr c16
     have c16b1 : (t828.toList != ([49, 46, 53, 48, 48, 48, 48, 48, 101, 43, 48, 48] : List UInt8)) = false := bne_eq_false_iff_eq.mpr c16
     clear c16
     obtain rfl := Option.some.inj H
     go_enter Tryz.func23, Tryz.ntmps23
     go_wp2_with (first | ((with_reducible refine gate_callee (f := 30) rfl ?_); refine goesL_ (some 8) rfl rfl Tryz.func30 (by kernel_rfl) rfl #[.int .i32 101] rfl lz ?_; (with_reducible refine (platenlaw06_bare.calls 101 t820 t821 t822 t823 t824 t825 t826 t827 _ A1.out).mono ?_); rintro e w17 ⟨rfl, hb⟩; refine ⟨_, rfl, ?_⟩; replace HB := bN bz hb; (try clear hb); (try clear hb2); (try clear hk); (try clear hi)) | ((with_reducible refine gate_callee (f := 25) rfl ?_); refine goesL_ (some 9) rfl rfl Tryz.func25 (by kernel_rfl) rfl #[.int .u64 4609434218613702656, .int .i64 64, .agg #[.bool t820, .bool t821, .bool t822, .bool t823, .bool t824, .int .i64 t825, .int .i64 t826, .int .i32 t827]] rfl lz ?_; (with_reducible refine (floats_Float.calls k 4609434218613702656 64 t820 t821 t822 t823 t824 t825 t826 t827 t828 true _ A2.out).mono ?_); rintro e w18 ⟨rfl, hb⟩; refine ⟨_, rfl, ?_⟩; replace HB := bN bz hb; (try clear hb); (try clear hb2); (try clear hk); (try clear hi)) | ((with_reducible refine gate_callee (f := 30) rfl ?_); refine goesL_ (some 13) rfl rfl Tryz.func30 (by kernel_rfl) rfl #[.int .i32 118] rfl lz ?_; (with_reducible refine (platenlaw06_bare.calls 118 t830 t831 t832 t833 t834 t835 t836 t837 _ A3.out).mono ?_); rintro e w19 ⟨rfl, hb⟩; refine ⟨_, rfl, ?_⟩; replace HB := bN bz hb; (try clear hb); (try clear hb2); (try clear hk); (try clear hi)) | ((with_reducible refine gate_callee (f := 25) rfl ?_); refine goesL_ (some 14) rfl rfl Tryz.func25 (by kernel_rfl) rfl #[.int .u64 4591870180066957722, .int .i64 64, .agg #[.bool t830, .bool t831, .bool t832, .bool t833, .bool t834, .int .i64 t835, .int .i64 t836, .int .i32 t837]] rfl lz ?_; (with_reducible refine (floats_Float.calls k 4591870180066957722 64 t830 t831 t832 t833 t834 t835 t836 t837 t838 true _ A4.out).mono ?_); rintro e w20 ⟨rfl, hb⟩; refine ⟨_, rfl, ?_⟩; replace HB := bN bz hb; (try clear hb); (try clear hb2); (try clear hk); (try clear hi)) | ((with_reducible refine gate_callee (f := 30) rfl ?_); refine goesL_ (some 18) rfl rfl Tryz.func30 (by kernel_rfl) rfl #[.int .i32 100] rfl lz ?_; (with_reducible refine (platenlaw06_bare.calls 100 t840 t841 t842 t843 t844 t845 t846 t847 _ A5.out).mono ?_); rintro e w21 ⟨rfl, hb⟩; refine ⟨_, rfl, ?_⟩; replace HB := bN bz hb; (try clear hb); (try clear hb2); (try clear hk); (try clear hi)) | ((with_reducible refine gate_callee (f := 25) rfl ?_); refine goesL_ (some 19) rfl rfl Tryz.func25 (by kernel_rfl) rfl #[.int .u64 0, .int .i64 64, .agg #[.bool t840, .bool t841, .bool t842, .bool t843, .bool t844, .int .i64 t845, .int .i64 t846, .int .i32 t847]] rfl lz ?_; (with_reducible refine (floats_Float.calls k 0 64 t840 t841 t842 t843 t844 t845 t846 t847 t848 false _ A6.out).mono ?_); rintro e w22 ⟨rfl, hb⟩; refine ⟨_, rfl, ?_⟩; replace HB := bN bz hb; (try clear hb); (try clear hb2); (try clear hk); (try clear hi)))
     go_ret
     exact ⟨ez, bz⟩
    ·replace H := hN H c16
     have c16b0 : (t828.toList == ([49, 46, 53, 48, 48, 48, 48, 48, 101, 43, 48, 48] : List UInt8)) = false := beq_eq_false_iff_ne.mpr c16
     have c16b1 : (t828.toList != ([49, 46, 53, 48, 48, 48, 48, 48, 101, 43, 48, 48] : List UInt8)) = true := bne_iff_ne.mpr c16
     obtain rfl := Option.some.inj H
     go_enter Tryz.func23, Tryz.ntmps23
     go_wp2_with (first | ((with_reducible refine gate_callee (f := 30) rfl ?_); refine goesL_ (some 8) rfl rfl Tryz.func30 (by kernel_rfl) rfl #[.int .i32 101] rfl lz ?_; (with_reducible refine (platenlaw06_bare.calls 101 t820 t821 t822 t823 t824 t825 t826 t827 _ A1.out).mono ?_); rintro e w23 ⟨rfl, hb⟩; refine ⟨_, rfl, ?_⟩; replace HB := bN bz hb; (try clear hb); (try clear hb2); (try clear hk); (try clear hi)) | ((with_reducible refine gate_callee (f := 25) rfl ?_); refine goesL_ (some 9) rfl rfl Tryz.func25 (by kernel_rfl) rfl #[.int .u64 4609434218613702656, .int .i64 64, .agg #[.bool t820, .bool t821, .bool t822, .bool t823, .bool t824, .int .i64 t825, .int .i64 t826, .int .i32 t827]] rfl lz ?_; (with_reducible refine (floats_Float.calls k 4609434218613702656 64 t820 t821 t822 t823 t824 t825 t826 t827 t828 true _ A2.out).mono ?_); rintro e w24 ⟨rfl, hb⟩; refine ⟨_, rfl, ?_⟩; replace HB := bN bz hb; (try clear hb); (try clear hb2); (try clear hk); (try clear hi)) | ((with_reducible refine gate_callee (f := 30) rfl ?_); refine goesL_ (some 13) rfl rfl Tryz.func30 (by kernel_rfl) rfl #[.int .i32 118] rfl lz ?_; (with_reducible refine (platenlaw06_bare.calls 118 t830 t831 t832 t833 t834 t835 t836 t837 _ A3.out).mono ?_); rintro e w25 ⟨rfl, hb⟩; refine ⟨_, rfl, ?_⟩; replace HB := bN bz hb; (try clear hb); (try clear hb2); (try clear hk); (try clear hi)) | ((with_reducible refine gate_callee (f := 25) rfl ?_); refine goesL_ (some 14) rfl rfl Tryz.func25 (by kernel_rfl) rfl #[.int .u64 4591870180066957722, .int .i64 64, .agg #[.bool t830, .bool t831, .bool t832, .bool t833, .bool t834, .int .i64 t835, .int .i64 t836, .int .i32 t837]] rfl lz ?_; (with_reducible refine (floats_Float.calls k 4591870180066957722 64 t830 t831 t832 t833 t834 t835 t836 t837 t838 true _ A4.out).mono ?_); rintro e w26 ⟨rfl, hb⟩; refine ⟨_, rfl, ?_⟩; replace HB := bN bz hb; (try clear hb); (try clear hb2); (try clear hk); (try clear hi)) | ((with_reducible refine gate_callee (f := 30) rfl ?_); refine goesL_ (some 18) rfl rfl Tryz.func30 (by kernel_rfl) rfl #[.int .i32 100] rfl lz ?_; (with_reducible refine (platenlaw06_bare.calls 100 t840 t841 t842 t843 t844 t845 t846 t847 _ A5.out).mono ?_); rintro e w27 ⟨rfl, hb⟩; refine ⟨_, rfl, ?_⟩; replace HB := bN bz hb; (try clear hb); (try clear hb2); (try clear hk); (try clear hi)) | ((with_reducible refine gate_callee (f := 25) rfl ?_); refine goesL_ (some 19) rfl rfl Tryz.func25 (by kernel_rfl) rfl #[.int .u64 0, .int .i64 64, .agg #[.bool t840, .bool t841, .bool t842, .bool t843, .bool t844, .int .i64 t845, .int .i64 t846, .int .i32 t847]] rfl lz ?_; (with_reducible refine (floats_Float.calls k 0 64 t840 t841 t842 t843 t844 t845 t846 t847 t848 false _ A6.out).mono ?_); rintro e w28 ⟨rfl, hb⟩; refine ⟨_, rfl, ?_⟩; replace HB := bN bz hb; (try clear hb); (try clear hb2); (try clear hk); (try clear hi)))
     go_ret
     exact ⟨ez, bz⟩
  ·replace c8 := Bool.eq_false_iff.mpr c8
   subst c8
   replace H := hF H
   obtain rfl := Option.some.inj H
   go_enter Tryz.func23, Tryz.ntmps23
   go_wp2_with (first | ((with_reducible refine gate_callee (f := 30) rfl ?_); refine goesL_ (some 8) rfl rfl Tryz.func30 (by kernel_rfl) rfl #[.int .i32 101] rfl lz ?_; (with_reducible refine (platenlaw06_bare.calls 101 t820 t821 t822 t823 t824 t825 t826 t827 _ A1.out).mono ?_); rintro e w29 ⟨rfl, hb⟩; refine ⟨_, rfl, ?_⟩; replace HB := bN bz hb; (try clear hb); (try clear hb2); (try clear hk); (try clear hi)) | ((with_reducible refine gate_callee (f := 25) rfl ?_); refine goesL_ (some 9) rfl rfl Tryz.func25 (by kernel_rfl) rfl #[.int .u64 4609434218613702656, .int .i64 64, .agg #[.bool t820, .bool t821, .bool t822, .bool t823, .bool t824, .int .i64 t825, .int .i64 t826, .int .i32 t827]] rfl lz ?_; (with_reducible refine (floats_Float.calls k 4609434218613702656 64 t820 t821 t822 t823 t824 t825 t826 t827 t828 true _ A2.out).mono ?_); rintro e w30 ⟨rfl, hb⟩; refine ⟨_, rfl, ?_⟩; replace HB := bN bz hb; (try clear hb); (try clear hb2); (try clear hk); (try clear hi)) | ((with_reducible refine gate_callee (f := 30) rfl ?_); refine goesL_ (some 13) rfl rfl Tryz.func30 (by kernel_rfl) rfl #[.int .i32 118] rfl lz ?_; (with_reducible refine (platenlaw06_bare.calls 118 t830 t831 t832 t833 t834 t835 t836 t837 _ A3.out).mono ?_); rintro e w31 ⟨rfl, hb⟩; refine ⟨_, rfl, ?_⟩; replace HB := bN bz hb; (try clear hb); (try clear hb2); (try clear hk); (try clear hi)) | ((with_reducible refine gate_callee (f := 25) rfl ?_); refine goesL_ (some 14) rfl rfl Tryz.func25 (by kernel_rfl) rfl #[.int .u64 4591870180066957722, .int .i64 64, .agg #[.bool t830, .bool t831, .bool t832, .bool t833, .bool t834, .int .i64 t835, .int .i64 t836, .int .i32 t837]] rfl lz ?_; (with_reducible refine (floats_Float.calls k 4591870180066957722 64 t830 t831 t832 t833 t834 t835 t836 t837 t838 false _ A4.out).mono ?_); rintro e w32 ⟨rfl, hb⟩; refine ⟨_, rfl, ?_⟩; replace HB := bN bz hb; (try clear hb); (try clear hb2); (try clear hk); (try clear hi)) | ((with_reducible refine gate_callee (f := 30) rfl ?_); refine goesL_ (some 18) rfl rfl Tryz.func30 (by kernel_rfl) rfl #[.int .i32 100] rfl lz ?_; (with_reducible refine (platenlaw06_bare.calls 100 t840 t841 t842 t843 t844 t845 t846 t847 _ A5.out).mono ?_); rintro e w33 ⟨rfl, hb⟩; refine ⟨_, rfl, ?_⟩; replace HB := bN bz hb; (try clear hb); (try clear hb2); (try clear hk); (try clear hi)) | ((with_reducible refine gate_callee (f := 25) rfl ?_); refine goesL_ (some 19) rfl rfl Tryz.func25 (by kernel_rfl) rfl #[.int .u64 0, .int .i64 64, .agg #[.bool t840, .bool t841, .bool t842, .bool t843, .bool t844, .int .i64 t845, .int .i64 t846, .int .i32 t847]] rfl lz ?_; (with_reducible refine (floats_Float.calls k 0 64 t840 t841 t842 t843 t844 t845 t846 t847 t848 t849 _ A6.out).mono ?_); rintro e w34 ⟨rfl, hb⟩; refine ⟨_, rfl, ?_⟩; replace HB := bN bz hb; (try clear hb); (try clear hb2); (try clear hk); (try clear hi)))
   go_ret
   exact ⟨ez, bz⟩
 ·replace c7 := Bool.eq_false_iff.mpr c7
  subst c7
  replace H := hF H
  obtain rfl := Option.some.inj H
  go_enter Tryz.func23, Tryz.ntmps23
  go_wp2_with (first | ((with_reducible refine gate_callee (f := 30) rfl ?_); refine goesL_ (some 8) rfl rfl Tryz.func30 (by kernel_rfl) rfl #[.int .i32 101] rfl lz ?_; (with_reducible refine (platenlaw06_bare.calls 101 t820 t821 t822 t823 t824 t825 t826 t827 _ A1.out).mono ?_); rintro e w35 ⟨rfl, hb⟩; refine ⟨_, rfl, ?_⟩; replace HB := bN bz hb; (try clear hb); (try clear hb2); (try clear hk); (try clear hi)) | ((with_reducible refine gate_callee (f := 25) rfl ?_); refine goesL_ (some 9) rfl rfl Tryz.func25 (by kernel_rfl) rfl #[.int .u64 4609434218613702656, .int .i64 64, .agg #[.bool t820, .bool t821, .bool t822, .bool t823, .bool t824, .int .i64 t825, .int .i64 t826, .int .i32 t827]] rfl lz ?_; (with_reducible refine (floats_Float.calls k 4609434218613702656 64 t820 t821 t822 t823 t824 t825 t826 t827 t828 false _ A2.out).mono ?_); rintro e w36 ⟨rfl, hb⟩; refine ⟨_, rfl, ?_⟩; replace HB := bN bz hb; (try clear hb); (try clear hb2); (try clear hk); (try clear hi)) | ((with_reducible refine gate_callee (f := 30) rfl ?_); refine goesL_ (some 13) rfl rfl Tryz.func30 (by kernel_rfl) rfl #[.int .i32 118] rfl lz ?_; (with_reducible refine (platenlaw06_bare.calls 118 t830 t831 t832 t833 t834 t835 t836 t837 _ A3.out).mono ?_); rintro e w37 ⟨rfl, hb⟩; refine ⟨_, rfl, ?_⟩; replace HB := bN bz hb; (try clear hb); (try clear hb2); (try clear hk); (try clear hi)) | ((with_reducible refine gate_callee (f := 25) rfl ?_); refine goesL_ (some 14) rfl rfl Tryz.func25 (by kernel_rfl) rfl #[.int .u64 4591870180066957722, .int .i64 64, .agg #[.bool t830, .bool t831, .bool t832, .bool t833, .bool t834, .int .i64 t835, .int .i64 t836, .int .i32 t837]] rfl lz ?_; (with_reducible refine (floats_Float.calls k 4591870180066957722 64 t830 t831 t832 t833 t834 t835 t836 t837 t838 t839 _ A4.out).mono ?_); rintro e w38 ⟨rfl, hb⟩; refine ⟨_, rfl, ?_⟩; replace HB := bN bz hb; (try clear hb); (try clear hb2); (try clear hk); (try clear hi)) | ((with_reducible refine gate_callee (f := 30) rfl ?_); refine goesL_ (some 18) rfl rfl Tryz.func30 (by kernel_rfl) rfl #[.int .i32 100] rfl lz ?_; (with_reducible refine (platenlaw06_bare.calls 100 t840 t841 t842 t843 t844 t845 t846 t847 _ A5.out).mono ?_); rintro e w39 ⟨rfl, hb⟩; refine ⟨_, rfl, ?_⟩; replace HB := bN bz hb; (try clear hb); (try clear hb2); (try clear hk); (try clear hi)) | ((with_reducible refine gate_callee (f := 25) rfl ?_); refine goesL_ (some 19) rfl rfl Tryz.func25 (by kernel_rfl) rfl #[.int .u64 0, .int .i64 64, .agg #[.bool t840, .bool t841, .bool t842, .bool t843, .bool t844, .int .i64 t845, .int .i64 t846, .int .i32 t847]] rfl lz ?_; (with_reducible refine (floats_Float.calls k 0 64 t840 t841 t842 t843 t844 t845 t846 t847 t848 t849 _ A6.out).mono ?_); rintro e w40 ⟨rfl, hb⟩; refine ⟨_, rfl, ?_⟩; replace HB := bN bz hb; (try clear hb); (try clear hb2); (try clear hk); (try clear hi)))
  go_ret
  exact ⟨ez, bz⟩
end Go.Proofs.YtecpgdfnamkfdaaGreatDoor.Fn
end
section
namespace Go.Proofs.YtecpgdfnamkfdaaGreatDoor.Pure
open Go.RowKit Go.Proofs.YtecpgdfnamkfdaaGreatDoorW.PrintWords Go.Proofs.YtecpgdfnamkfdaaGreatDoorW.PrintLast Go.Proofs.YtecpgdfnamkfdaaGreatDoorW.PrintMore Go.Proofs.YtecpgdfnamkfdaaGreatDoor.Fn
set_option linter.unusedVariables false
set_option linter.unusedSimpArgs false
theorem ex_e : floatS true 4609434218613702656 false false false false false (-1) (-1) 101 = (S [49, 46, 53, 48, 48, 48, 48, 48, 101, 43, 48, 48], true) := by decide +kernel
theorem ex_v : floatS true 4591870180066957722 false false false false false (-1) (-1) 118 = (S [48, 46, 49], true) := by
  have h0 : codeV 118 = 3 := by decide
  have h1 : bareN true 4591870180066957722 = 4591870180066957722 := by decide
  have h2 : (4591870180066957722 : Nat) < ii true := by decide
  unfold floatS
  rw [h1, if_neg (by rw [h0]; decide), if_pos h2]
  have hr : ∀ m e, restL true 4591870180066957722 m e (clamp (-1)) 118 false = [48, 46, 49] := by
    intro m e
    unfold restL genOf shortL
    rw [h0, if_neg (by decide), if_neg (by decide), if_pos rfl, if_pos (by decide), if_neg (by decide), tenth_short]
    decide
  rw [hr]
  decide
theorem lives6 : Ev (fun k => platenlaw06_lives.f k) true := by
  have h1 := float_ev true (a := 4609434218613702656) (by decide) false false false false false (-1) (-1) 101
  rw [ex_e] at h1
  have h2 := float_ev true (a := 4591870180066957722) (by decide) false false false false false (-1) (-1) 118
  rw [ex_v] at h2
  have h3 := float_ev true (a := 0) (by decide) false false false false false (-1) (-1) 100
  rw [show floatS true 0 false false false false false (-1) (-1) 100 = (⟨#[]⟩, false) from rfl] at h3
  unfold platenlaw06_lives.f platenlaw06_bare.f
  simp only [Option.bind_some]
  refine Ev.bind (g := fun k => floats_Float.f k 4609434218613702656 64 false false false false false (-1) (-1) 101) h1 ?_
  refine Ev.bind (g := fun k => floats_Float.f k 4591870180066957722 64 false false false false false (-1) (-1) 118) h2 ?_
  refine Ev.bind (g := fun k => floats_Float.f k 0 64 false false false false false (-1) (-1) 100) h3 ?_
  refine Ev.congr (fun k => ?_) (Ev.now _)
  rw [if_pos rfl, if_pos rfl, if_neg (by simp), if_pos (by rw [toList_L, L_S]), toList_L, L_S]
  rfl
theorem livesEnd6 : Ev (fun k => (platenlaw06_lives.f k).bind fun t => some t) true := Ev.bind lives6 (Ev.now _)
def HeadD (l : List UInt8) : Prop := ∃ c t, l = c :: t ∧ 48 ≤ c.toNat ∧ c.toNat ≤ 57
theorem HeadD.of {l : List UInt8} (h : AllD l) (hn : l ≠ []) : HeadD l := by
  cases l with
  | nil => exact absurd rfl hn
  | cons c t => exact ⟨c, t, rfl, h c List.mem_cons_self⟩
theorem HeadD.app {a : List UInt8} (h : HeadD a) (b : List UInt8) : HeadD (a ++ b) := by
  obtain ⟨c, t, rfl, h1⟩ := h
  exact ⟨c, t ++ b, rfl, h1⟩
theorem HeadD.pt {a : List UInt8} (h : HeadD a) (dot : Bool) (b : List UInt8) : HeadD (ptL dot a b) := by
  unfold ptL
  split
  · exact h
  · exact h.app _
theorem headD48 : HeadD [48] := ⟨48, [], rfl, by decide, by decide⟩
theorem sci_head {l : List UInt8} (h : AllD l) (hn : l ≠ []) (dot big : Bool) (e : Int) : HeadD (sciL dot big l e) := by
  refine HeadD.app (HeadD.pt (HeadD.of (h.take 1) ?_) dot _) _
  cases l with
  | nil => exact absurd rfl hn
  | cons c t => simp
theorem around_head {l : List UInt8} (h : AllD l) (dot : Bool) (p : Int) : HeadD (aroundL dot l p) := by
  unfold aroundL
  split
  · exact headD48.pt dot _
  · refine HeadD.pt (HeadD.of (AllD.take (AllD.append h (zsL_all _)) _) ?_) dot _
    have hf := fillL_len l p
    intro e
    have : ((fillL l p).take p.toNat).length = 0 := congrArg List.length e
    rw [List.length_take] at this
    omega
theorem dch_dig {n : Nat} (h : n < 10) : 48 ≤ (dch n).toNat ∧ (dch n).toNat ≤ 57 := by
  unfold dch
  rw [if_pos h, UInt8.toNat_ofNat']
  omega
theorem bF_all : ∀ k n, AllD (bF 10 k n)
  | 0, n => fun c hc => by
    rw [bF, List.mem_singleton] at hc
    rw [hc]
    exact dch_dig (Nat.mod_lt _ (by decide))
  | k + 1, n => by
    have hd : AllD [dch (n % 10)] := fun c hc => by
      rw [List.mem_singleton] at hc
      rw [hc]
      exact dch_dig (Nat.mod_lt _ (by decide))
    unfold bF
    split
    · exact hd
    · exact (bF_all k _).append hd
theorem rest_head (wide : Bool) {p : Nat} (hp : p < ii wide) {m : Nat} (hm : m < 18446744073709551616) {e : Int} (h : -1200 ≤ e ∧ e ≤ 1200) {prec : Int} (hq : -1 ≤ prec ∧ prec ≤ 1000) (v : Int) (sharp : Bool) : HeadD (restL wide p m e prec v sharp) := by
  have hn := exD_near hm h
  have hs := six_ok hq
  have gen : ∀ (d : List UInt8 × Int) (dot big : Bool) (keep top : Int), AllD d.1 → HeadD (genL dot big d keep top) := by
    intro d dot big keep top hd
    unfold genL
    dsimp only
    have hl : AllD (if d.1 = [] then [48] else d.1) ∧ (if d.1 = [] then ([48] : List UInt8) else d.1) ≠ [] := by
      split
      · exact ⟨by unfold AllD; decide, by simp⟩
      · rename_i c; exact ⟨hd, c⟩
    generalize (if d.1 = [] then ([48] : List UInt8) else d.1) = l at *
    have hm : AllD (if dot = true then fillL l keep else l) ∧ (if dot = true then fillL l keep else l) ≠ [] := by
      split
      · refine ⟨hl.1.append (zsL_all _), fun e => hl.2 ?_⟩
        unfold fillL at e
        exact (List.append_eq_nil_iff.1 e).1
      · exact hl
    split
    · exact sci_head hm.1 hm.2 dot big _
    · exact around_head hm.1 dot _
  unfold restL
  repeat' split
  · exact sci_head ((round_form hn.form _).1.append (zsL_all _)) (fill_ne (by omega)) _ _ _
  · unfold fixedL
    repeat' split
    · exact headD48.pt _ _
    · exact headD48.pt _ _
    · exact around_head ((round_form hn.form _).1.append (zsL_all _)) _ _
  · unfold genOf
    split
    · exact gen _ _ _ _ _ (shortL_ok wide hp).1.1
    · exact gen _ _ _ _ _ (round_form hn.form _).1
  · exact HeadD.app (HeadD.of (bF_all 63 m) (bF_ne 10 63 m)) _
  · have he : ∀ (dot up : Bool) (lead ds : List UInt8) (x : Int), HeadD (hexEnd dot up lead ds x) := by
      intro dot up lead ds x
      unfold hexEnd
      split
      · exact ⟨48, _, rfl, by decide, by decide⟩
      · exact ⟨48, _, rfl, by decide, by decide⟩
    unfold hexL
    split <;> (unfold hexTail; repeat' split) <;> first | exact he _ _ _ _ _ | (unfold hexMid; exact he _ _ _ _ _)
end Go.Proofs.YtecpgdfnamkfdaaGreatDoor.Pure
end
section
namespace Go.Proofs.YtecpgdfnamkfdaaGreatDoor.Fn
open Go.RowKit Go.Proofs.YtecpgdfnamkfdaaGreatDoorW.PrintWords Go.Proofs.YtecpgdfnamkfdaaGreatDoorW.PrintLast Go.Proofs.YtecpgdfnamkfdaaGreatDoorW.PrintMore
set_option linter.unusedVariables false
set_option linter.unusedSimpArgs false
def platenlaw06_FloatsRefuses.f (k : Nat) (a0 a1 : Int) (p m s sp z : Bool) (wid prec v : Int) : Option Bool :=
  (floats_Float.f k a0 a1 p m s sp z wid prec v).bind fun b => if (b.2 == ((a1 == 32 || a1 == 64) && isVerb v)) = true then (if ((b.1.toList != ([] : List UInt8)) == b.2) = true then (platenlaw06_lives.f k).bind fun t => some t else some false) else some false
def vsL : List Int := [118, 101, 69, 102, 70, 103, 71, 98, 120, 88]
def isV (k : Nat) (v : Int) : Bool := (vsL.take k).any (· == v)
theorem isV_succ {k : Nat} (h : k < 10) (v : Int) : isV (k + 1) v = (isV k v || vsL.getD k 0 == v) := by
  have hl : k < vsL.length := h
  unfold isV
  rw [List.take_succ_eq_append_getElem hl, List.any_append, List.getD_eq_getElem?_getD, List.getElem?_eq_getElem hl]
  simp
theorem isV_all (v : Int) : isV 10 v = isVerb v := by
  unfold isV isVerb
  rw [Bool.eq_iff_iff]
  simp [vsL]
  omega
theorem ref_next (w : World) {k : Nat} (h : k < 10) (ty : TypeId) : (Instr.next (.pointer (some ⟨w.heap.size, 0, none⟩)) true ty).run Tryz.prog (w.iter (⟨#[118, 101, 69, 102, 70, 103, 71, 98, 120, 88]⟩ : ByteArray) k) = .ok (.tuple #[.bool true, .int .i64 (k : Int), .int .i32 (vsL.getD k 0)]) (w.iter (⟨#[118, 101, 69, 102, 70, 103, 71, 98, 120, 88]⟩ : ByteArray) (k + 1)) := by
  match k, h with
  | 0, _ => exact verb_at0 w ty
  | 1, _ => exact verb_at1 w ty
  | 2, _ => exact verb_at2 w ty
  | 3, _ => exact verb_at3 w ty
  | 4, _ => exact verb_at4 w ty
  | 5, _ => exact verb_at5 w ty
  | 6, _ => exact verb_at6 w ty
  | 7, _ => exact verb_at7 w ty
  | 8, _ => exact verb_at8 w ty
  | 9, _ => exact verb_at9 w ty
theorem iter_cell {w : World} {g j : Nat} {u : Value} (s : ByteArray) (k : Nat) (h : w.cell? ⟨g, j, none⟩ = some u) (hg : g < w.heap.size) : (w.iter s k).cell? ⟨g, j, none⟩ = some u := by
  rw [← h]
  exact (iter_below w s k).cell (p := ⟨g, j, none⟩) hg
set_option maxHeartbeats 8000000 in
set_option maxRecDepth 100000 in
theorem platenlaw06_FloatsRefuses.calls (k : Nat) (a0 : Int) (a1 : Int) (a2_0 : Bool) (a2_1 : Bool) (a2_2 : Bool) (a2_3 : Bool) (a2_4 : Bool) (a2_5 : Int) (a2_6 : Int) (a2_7 : Int) (r : Bool) (w : World) (h : platenlaw06_FloatsRefuses.f k a0 a1 a2_0 a2_1 a2_2 a2_3 a2_4 a2_5 a2_6 a2_7 = some r) :
    Calls Tryz.prog 12 #[.int .u64 a0, .int .i64 a1, .agg #[.bool a2_0, .bool a2_1, .bool a2_2, .bool a2_3, .bool a2_4, .int .i64 a2_5, .int .i64 a2_6, .int .i32 a2_7]] w fun e w' => e = .returned (.bool r) ∧ Below w.heap.size w w' := by
  unfold platenlaw06_FloatsRefuses.f at h
  have H := bs h
  clear h
  obtain ⟨⟨t1, t2⟩, A1, H⟩ := H
  dsimp only at H
  have HH := Aside0.mk H
  clear H
  have hu26 := Tryz.underlying26
  have hu9 := Tryz.underlying9
  have HB := Aside0.mk (Below.refl w.heap.size w)
  go_enter Tryz.func12, Tryz.ntmps12
  go_wp2_with (first | ((with_reducible refine gate_dst (N := 5) rfl ?_); refine box_event rfl (N := 5) rfl (cs := #[.bool a2_0, .bool a2_1, .bool a2_2, .bool a2_3, .bool a2_4, .int .i64 a2_5, .int .i64 a2_6, .int .i32 a2_7]) (t := 26) gz ?_; intro gb hg w8 hbox hb; have GE := gN bz hg; have BK := Aside0.mk hbox; replace HB := bN bz hb; clear hb hbox hg; obtain ⟨hcz9_0, hcz9_1, hcz9_2, hcz9_3, hcz9_4, hcz9_5, hcz9_6, hcz9_7, hfz9_0, hfz9_1, hfz9_2, hfz9_3, hfz9_4, hfz9_5, hfz9_6, hfz9_7⟩ := cz8 (W := w8) BK) | (go_at_call 25; (with_reducible refine (floats_Float.calls k a0 a1 a2_0 a2_1 a2_2 a2_3 a2_4 a2_5 a2_6 a2_7 t1 t2 _ A1.out).mono ?_); rintro e w10 ⟨rfl, hb⟩; replace BK := kN (g := gb) (cs := #[.bool a2_0, .bool a2_1, .bool a2_2, .bool a2_3, .bool a2_4, .int .i64 a2_5, .int .i64 a2_6, .int .i32 a2_7]) hb bk; replace HB := bN bz hb; clear hb))
  go_ways
  all_goals (
    go_loopw [10] (fun x wr => ∃ kk : Nat, kk ≤ 10 ∧ x = .bool (isV kk a2_7) ∧ wr = w10.iter (⟨#[118, 101, 69, 102, 70, 103, 71, 98, 120, 88]⟩ : ByteArray) kk) (fun _ wr => 10 - wr.iterPos w10.heap.size)
    case atStart => exact ⟨0, by omega, rfl, rfl⟩
    case round =>
      obtain ⟨kk, hk, rfl, rfl⟩ := hrel
      by_cases hlt : kk < 10
      · have hnx := fun ty => ref_next w10 hlt ty
        obtain ⟨q0, q1, q2, q3, q4, q5, q6, q7, _⟩ := cz8 (W := w10) BK
        have hcl := iter_cell (⟨#[118, 101, 69, 102, 70, 103, 71, 98, 120, 88]⟩ : ByteArray) (kk + 1) q7 (blk_lt BK.out)
        cases hx : isV kk a2_7 with
        | true =>
          go_wp2
          go_roundw
          case rel => exact ⟨kk + 1, by omega, by rw [isV_succ hlt, hx]; rfl, rfl⟩
          case measure => simp; omega
        | false =>
          go_wp2
          go_roundw
          case rel => exact ⟨kk + 1, by omega, by rw [isV_succ hlt, hx]; rfl, rfl⟩
          case measure => simp; omega
      · obtain rfl : kk = 10 := by omega
        have hnx := fun ty => verb_end w10 ty
        have HE := Aside0.mk (below_step HB.out (iter_below w10 (⟨#[118, 101, 69, 102, 70, 103, 71, 98, 120, 88]⟩ : ByteArray) 10))
        have hV := isV_all a2_7
        have H := HH.out
        clear HH
        cases hI : isV 10 a2_7 <;> cases t2 <;> by_cases h32 : a1 = 32 <;> by_cases h64 : a1 = 64 <;> by_cases he : t1.toList = []
        all_goals (try contradiction)
        all_goals (try omega)
        all_goals (
          rw [hI] at hV
          rw [← hV] at H
          clear hV
          first
            | (have g1 : (t1.toList == []) = true := beq_iff_eq.mpr he; have g2 : (t1.toList != []) = false := bne_eq_false_iff_eq.mpr he; have g3 : t1.toList.isEmpty = true := List.isEmpty_iff.mpr he)
            | (have g1 : (t1.toList == []) = false := beq_eq_false_iff_ne.mpr he; have g2 : (t1.toList != []) = true := bne_iff_ne.mpr he; have g3 : t1.toList.isEmpty = false := by simpa using he)
          first
            | (have g4 : (a1 == 64) = true := beq_iff_eq.mpr h64)
            | (have g4 : (a1 == 64) = false := beq_eq_false_iff_ne.mpr h64)
          first
            | (have g5 : (a1 == 32) = true := beq_iff_eq.mpr h32)
            | (have g5 : (a1 == 32) = false := beq_eq_false_iff_ne.mpr h32)
          rw [g4, g5, g2] at H
          simp only [Bool.or_true, Bool.true_or, Bool.or_false, Bool.false_or, Bool.and_true, Bool.true_and, Bool.and_false, Bool.false_and, beq_self_eq_true, if_true, reduceCtorEq, if_false, Bool.false_eq_true, show (true == false) = false from rfl, show (false == true) = false from rfl] at H
          first
            | (obtain rfl := Option.some.inj H
               clear H
               go_wp2
               go_ret
               exact ⟨rfl, HE.out⟩)
            | (replace H := bs H
               obtain ⟨t3, A3, H⟩ := H
               obtain rfl := Option.some.inj H
               clear H
               go_wp2_with (first | (go_at_call 23; (with_reducible refine (platenlaw06_lives.calls k t3 _ A3.out).mono ?_); rintro e w34 ⟨rfl, hb⟩; replace HE := Aside0.mk (below_step HE.out hb); clear hb))
               go_ret
               exact ⟨rfl, HE.out⟩)))
end Go.Proofs.YtecpgdfnamkfdaaGreatDoor.Fn
end
section
namespace Go.Proofs.YtecpgdfnamkfdaaGreatDoor.Pure
open Go.RowKit Go.Proofs.YtecpgdfnamkfdaaGreatDoorW.PrintWords Go.Proofs.YtecpgdfnamkfdaaGreatDoorW.PrintLast Go.Proofs.YtecpgdfnamkfdaaGreatDoorW.PrintMore Go.Proofs.YtecpgdfnamkfdaaGreatDoor.Fn
set_option linter.unusedVariables false
set_option linter.unusedSimpArgs false
theorem verb_code (v : Int) : isVerb v = !(decide (codeV v = 0)) := by
  unfold isVerb
  by_cases h : v = 118 ∨ v = 101 ∨ v = 69 ∨ v = 102 ∨ v = 70 ∨ v = 103 ∨ v = 71 ∨ v = 98 ∨ v = 120 ∨ v = 88
  · rw [decide_eq_true h]
    rcases h with rfl | rfl | rfl | rfl | rfl | rfl | rfl | rfl | rfl | rfl
    all_goals rfl
  · rw [decide_eq_false h]
    have : codeV v = 0 := by
      unfold codeV
      rw [if_neg (by omega), if_neg (by omega), if_neg (by omega), if_neg (by omega), if_neg (by omega)]
    rw [decide_eq_true this]
    rfl
theorem endL_ne (s : List UInt8) {r : List UInt8} (h : r ≠ []) (minus zero : Bool) (wid : Int) : endL s r minus zero wid ≠ [] := by
  intro e
  unfold endL padL at e
  cases minus <;> cases zero <;> simp [h] at e
theorem floatS_ne (wide : Bool) (a : Nat) (plus minus sharp space zero : Bool) (wid prec : Int) {v : Int} (hv : codeV v ≠ 0) : ∃ l, l ≠ [] ∧ floatS wide a plus minus sharp space zero wid prec v = (S l, true) := by
  unfold floatS
  rw [if_neg hv]
  by_cases c : bareN wide a < ii wide
  · rw [if_pos c]
    have hb := fEl wide (Nat.le_of_lt c)
    have hb2 := fE_le wide (Nat.le_of_lt c)
    obtain ⟨c0, t, e, _⟩ := rest_head wide c (m := fM (ff wide) (bareN wide a)) (e := (fE (ff wide) (bareN wide a) : Int) - (ll wide : Int)) (by omega) (by omega) (clamp_ok prec) v sharp
    exact ⟨_, endL_ne _ (by rw [e]; simp) _ _ _, rfl⟩
  · rw [if_neg c]
    split
    · exact ⟨_, endL_ne _ (by simp) _ _ _, rfl⟩
    · exact ⟨_, endL_ne _ (by simp) _ _ _, rfl⟩
theorem refuses_size (wide : Bool) {a : Nat} (ha : a < 18446744073709551616) (plus minus sharp space zero : Bool) (wid prec v : Int) :
    Ev (fun k => platenlaw06_FloatsRefuses.f k (a : Int) (szB wide) plus minus sharp space zero wid prec v) true := by
  have f1 := float_ev wide ha plus minus sharp space zero wid prec v
  have hs : (szB wide == 32 || szB wide == 64) = true := by cases wide <;> rfl
  unfold platenlaw06_FloatsRefuses.f
  rw [hs, verb_code]
  by_cases hv : codeV v = 0
  · unfold floatS at f1
    rw [if_pos hv] at f1
    refine Ev.bind f1 ?_
    rw [decide_eq_true hv]
    have he : (⟨#[]⟩ : ByteArray).toList = ([] : List UInt8) := (empty_iff []).2 rfl
    refine Ev.congr (fun k => if_pos rfl) ?_
    refine Ev.congr (fun k => if_pos (by show (((⟨#[]⟩ : ByteArray).toList != []) == false) = true; rw [he]; rfl)) ?_
    exact livesEnd6
  · obtain ⟨l, hl, e⟩ := floatS_ne wide a plus minus sharp space zero wid prec hv
    rw [e] at f1
    refine Ev.bind f1 ?_
    rw [decide_eq_false hv]
    have hne : ((S l).toList != []) = true := bne_iff_ne.mpr (fun h => hl ((empty_iff l).1 h))
    refine Ev.congr (fun k => if_pos rfl) ?_
    refine Ev.congr (fun k => if_pos (by show (((S l).toList != []) == true) = true; rw [hne]; rfl)) ?_
    exact livesEnd6
theorem FloatsRefuses : ∀ (a0 : Int) (a1 : Int) (a2_0 : Bool) (a2_1 : Bool) (a2_2 : Bool) (a2_3 : Bool) (a2_4 : Bool) (a2_5 : Int) (a2_6 : Int) (a2_7 : Int), (Lit.int .u64 a0).wf = true → (Lit.int .i64 a1).wf = true → (Lit.int .i64 a2_5).wf = true → (Lit.int .i64 a2_6).wf = true → (Lit.int .i32 a2_7).wf = true → ∃ k, platenlaw06_FloatsRefuses.f k a0 a1 a2_0 a2_1 a2_2 a2_3 a2_4 a2_5 a2_6 a2_7 = some true := by
  intro a0 n plus minus sharp space zero wid prec v h0 _ _ _ _
  obtain ⟨a, rfl, ha⟩ := wf_u64 h0
  refine Ev.rounds (g := fun k => platenlaw06_FloatsRefuses.f k (a : Int) n plus minus sharp space zero wid prec v) ?_
  by_cases h32 : n = 32
  · subst h32
    exact refuses_size false ha plus minus sharp space zero wid prec v
  · by_cases h64 : n = 64
    · subst h64
      exact refuses_size true ha plus minus sharp space zero wid prec v
    · have f1 := float_no (a : Int) h32 h64 plus minus sharp space zero wid prec v
      have hs : (n == 32 || n == 64) = false := by rw [beq_eq_false_iff_ne.mpr h32, beq_eq_false_iff_ne.mpr h64]; rfl
      unfold platenlaw06_FloatsRefuses.f
      rw [hs]
      refine Ev.bind f1 ?_
      have he : (⟨#[]⟩ : ByteArray).toList = ([] : List UInt8) := (empty_iff []).2 rfl
      refine Ev.congr (fun k => if_pos rfl) ?_
      refine Ev.congr (fun k => if_pos (by show (((⟨#[]⟩ : ByteArray).toList != []) == false) = true; rw [he]; rfl)) ?_
      exact livesEnd6
end Go.Proofs.YtecpgdfnamkfdaaGreatDoor.Pure
end
