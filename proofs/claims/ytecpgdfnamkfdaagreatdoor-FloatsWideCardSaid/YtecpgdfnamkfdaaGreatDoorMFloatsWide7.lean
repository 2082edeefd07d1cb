/- The law FloatsWide: the walks through its functions and its plain law (part 7). Own texts and the kit's printed words for this seat, without what the law does not use: put together by merge.py (of this work). -/
import Derived.Test.YtecpgdfnamkfdaaGreatDoorMFloatsWide6
import Derived.Handy
section
namespace Go.Proofs.YtecpgdfnamkfdaaGreatDoor.Pure
open Go.RowKit Go.Proofs.YtecpgdfnamkfdaaGreatDoorW.PrintWords Go.Proofs.YtecpgdfnamkfdaaGreatDoorW.PrintLast Go.Proofs.YtecpgdfnamkfdaaGreatDoorW.PrintMore Go.Proofs.YtecpgdfnamkfdaaGreatDoor.Fn
set_option linter.unusedVariables false
set_option linter.unusedSimpArgs false
def codeV (v : Int) : Int := if v = 101 ∨ v = 69 then 1 else if v = 102 ∨ v = 70 then 2 else if v = 103 ∨ v = 71 ∨ v = 118 then 3 else if v = 98 then 4 else if v = 120 ∨ v = 88 then 5 else 0
theorem chosen_at (v : Int) (k : Nat) : floats_chosen.f (k + 3) v = some (codeV v) := by
  unfold codeV floats_chosen.f
  simp only [floats_chosen.j0, floats_chosen.j1, floats_chosen.j2]
  by_cases d1 : v = 101
  · subst d1; rfl
  by_cases d2 : v = 69
  · subst d2; rfl
  by_cases d3 : v = 102
  · subst d3; rfl
  by_cases d4 : v = 70
  · subst d4; rfl
  by_cases d5 : v = 103
  · subst d5; rfl
  by_cases d6 : v = 71
  · subst d6; rfl
  by_cases d7 : v = 118
  · subst d7; rfl
  by_cases d8 : v = 98
  · subst d8; rfl
  by_cases d9 : v = 120
  · subst d9; rfl
  by_cases d10 : v = 88
  · subst d10; rfl
  simp [d1, d2, d3, d4, d5, d6, d7, d8, d9, d10]
theorem chosen_ev (v : Int) : Ev (fun k => floats_chosen.f k v) (codeV v) :=
  ⟨3, fun k hk => by obtain ⟨j, rfl⟩ : ∃ j, k = j + 3 := ⟨k - 3, by omega⟩; exact chosen_at v j⟩
theorem codeV_le (v : Int) : 0 ≤ codeV v ∧ codeV v ≤ 5 := by
  unfold codeV
  repeat' split
  all_goals decide
def signL (neg : Bool) (kind : Int) (plus space : Bool) : List UInt8 := if neg = true ∧ kind ≠ 2 then [45] else if plus then [43] else if space then [32] else if kind = 1 then [43] else []
theorem signL_ok (neg : Bool) (kind : Int) (plus space : Bool) : (signL neg kind plus space).length ≤ 1 ∧ Asc (signL neg kind plus space) := by
  unfold signL
  repeat' split
  all_goals exact ⟨by decide, by decide⟩
def clamp (prec : Int) : Int := max (-1) (min prec 1000)
theorem clamp_ok (prec : Int) : -1 ≤ clamp prec ∧ clamp prec ≤ 1000 := by unfold clamp; omega
def restL (wide : Bool) (p m : Nat) (e prec v : Int) (sharp : Bool) : List UInt8 :=
  if codeV v = 1 then scaledL (sharp && v != 118) (bigV v) (exD m e) (six prec)
  else if codeV v = 2 then fixedL (sharp && v != 118) (exD m e) (six prec)
  else if codeV v = 3 then genOf wide p m e prec (sharp && v != 118) (bigV v)
  else if codeV v = 4 then binL m e
  else hexL m e prec (sharp && v != 118) (v == 88)
def Fit (l : List UInt8) : Prop := Asc l ∧ l.length ≤ 100000
theorem sci_fit {l : List UInt8} (h : Asc l) (hl : l.length ≤ 50000) (dot big : Bool) (e : Int) : Fit (sciL dot big l e) := by
  refine ⟨sciL_asc h dot big e, ?_⟩
  have h1 := ptL_len dot (l.take 1) (l.drop 1)
  have h2 := powL_len (eMark big) (e := e) (least := 2) (by decide)
  have hm : (eMark big).length = 1 := by cases big <;> rfl
  rw [List.length_take, List.length_drop] at h1
  unfold sciL
  rw [List.length_append]
  omega
theorem around_fit {l : List UInt8} (h : Asc l) (hl : l.length ≤ 20000) (dot : Bool) {p : Int} (hp : -20000 ≤ p ∧ p ≤ 20000) : Fit (aroundL dot l p) := by
  refine ⟨aroundL_asc h dot p, ?_⟩
  have hf := fillL_len l p
  unfold aroundL
  split
  · have h1 := ptL_len dot [48] (zsL (-p).toNat ++ l)
    rw [List.length_append, zsL_len] at h1
    simp at h1
    omega
  · have h1 := ptL_len dot ((fillL l p).take p.toNat) ((fillL l p).drop p.toNat)
    rw [List.length_take, List.length_drop] at h1
    omega
theorem scaled_fit {v : List UInt8 × Int} (h : Near v) (dot big : Bool) {p : Int} (hp : 0 ≤ p ∧ p ≤ 1000) : Fit (scaledL dot big v p) := by
  have hb := round_bound h (p + 1)
  have hf := fillL_len (roundN v.1 v.2 (p + 1)).1 (p + 1)
  exact sci_fit (fillL_asc (round_form h.form (p + 1)).1.asc _) (by omega) dot big _
theorem fixed_fit {v : List UInt8 × Int} (h : Near v) (dot : Bool) {p : Int} (hp : 0 ≤ p ∧ p ≤ 1000) : Fit (fixedL dot v p) := by
  have hb := round_bound h (v.2 + p)
  have ha := (round_form h.form (v.2 + p)).1.asc
  unfold fixedL
  generalize roundN v.1 v.2 (v.2 + p) = d at *
  split
  · refine ⟨ptL_asc (by decide) (zsL_asc _) dot, ?_⟩
    have h1 := ptL_len dot [48] (zsL p.toNat)
    rw [zsL_len] at h1
    simp at h1
    omega
  · split
    · refine ⟨ptL_asc (by decide) (fillL_asc ((zsL_asc _).app ha) _) dot, ?_⟩
      have h1 := ptL_len dot [48] (fillL (zsL (-d.2).toNat ++ d.1) p)
      have hf := fillL_len (zsL (-d.2).toNat ++ d.1) p
      rw [List.length_append, zsL_len] at hf
      simp at h1
      omega
    · have hf := fillL_len d.1 (d.2 + p)
      exact around_fit (fillL_asc ha _) (by omega) dot (by omega)
theorem gen_fit {d : List UInt8 × Int} (ha : Asc d.1) (hd : d.1.length ≤ 2000 ∧ -4000 ≤ d.2 ∧ d.2 ≤ 1500) (dot big : Bool) {keep top : Int} (hk : 1 ≤ keep ∧ keep ≤ 1000) : Fit (genL dot big d keep top) := by
  have hfb := firstL_bound (d := d) hd.2
  unfold genL
  dsimp only
  have hl : Asc (if d.1 = [] then [48] else d.1) ∧ (if d.1 = [] then ([48] : List UInt8) else d.1).length ≤ 2000 := by
    split
    · exact ⟨by decide, by decide⟩
    · exact ⟨ha, hd.1⟩
  generalize (if d.1 = [] then ([48] : List UInt8) else d.1) = l at *
  have hm : Asc (if dot = true then fillL l keep else l) ∧ (if dot = true then fillL l keep else l).length ≤ 3000 := by
    have hf := fillL_len l keep
    split
    · exact ⟨fillL_asc hl.1 _, by omega⟩
    · exact ⟨hl.1, by omega⟩
  split
  · exact sci_fit hm.1 (by omega) dot big _
  · exact around_fit hm.1 (by omega) dot (by omega)
theorem shortL_ok (wide : Bool) {p : Nat} (hp : p < ii wide) : InForm (shortL wide p).1 (shortL wide p).2 ∧ (shortL wide p).1.length ≤ 2000 ∧ -4000 ≤ (shortL wide p).2 ∧ (shortL wide p).2 ≤ 1500 := by
  unfold shortL
  by_cases c : p = 0
  · rw [if_pos c]; exact ⟨⟨AllD.nil, fun c t e => (by cases e), rfl, fun _ => rfl⟩, by decide, by decide, by decide⟩
  · rw [if_neg c]
    obtain ⟨M, h1, h2, h3⟩ := short_spec wide p
    have hv := exV_val wide hp
    have hl := hv.len
    have hlo := hv.lo
    have hhi := hv.hi
    rcases best_some h2 with ⟨_, e⟩ | ⟨hn, u, hu, e, _⟩
    · rw [e]; exact ⟨hv.form, by omega, by omega, by omega⟩
    · have hc := cU_lt hv M hn
      have hu1 : u < 10 ^ (M + 1) := by
        rw [Nat.pow_succ]
        have : 1 ≤ 10 ^ M := Nat.pow_pos (by decide)
        rcases hu with hu | hu <;> omega
      have hb := decOf_bound hu1 (cE (exV wide p) M)
      rw [e]
      unfold cE at hb ⊢
      exact ⟨inForm_decOf _ _, by omega, by omega, by omega⟩
theorem genOf_fit (wide : Bool) {p : Nat} (hp : p < ii wide) {m : Nat} (hm : m < 18446744073709551616) {e : Int} (h : -1200 ≤ e ∧ e ≤ 1200) {prec : Int} (hq : -1 ≤ prec ∧ prec ≤ 1000) (dot big : Bool) : Fit (genOf wide p m e prec dot big) := by
  unfold genOf
  split
  · have := shortL_ok wide hp
    exact gen_fit this.1.1.asc this.2 dot big (by decide)
  · have hn := exD_near hm h
    have hb := round_bound hn (max prec 1)
    exact gen_fit (round_form hn.form _).1.asc (by omega) dot big (by omega)
theorem bin_fit (m : Nat) (e : Int) : Fit (binL m e) := by
  refine ⟨(bT_asc (by decide) m).app (powL_asc (by decide) e 1), ?_⟩
  have h1 := bT_len 10 m
  have h2 := powL_len ([112] : List UInt8) (e := e) (least := 1) (by decide)
  unfold binL
  rw [List.length_append]
  simp at h2
  omega
set_option maxRecDepth 100000 in
theorem upper_asc (b : UInt8) (h : b.toNat < 128) : (Lib.upperB b).toNat < 128 := by
  have key : ∀ n : Fin 256, n.val < 128 → (Lib.upperB (UInt8.ofNat n.val)).toNat < 128 := by decide
  have := key ⟨b.toNat, b.toNat_lt⟩ h
  rwa [UInt8.ofNat_toNat] at this
theorem hexEnd_fit {lead ds : List UInt8} (hl : lead.length ≤ 10 ∧ Asc lead) (hd : ds.length ≤ 2000 ∧ Asc ds) (dot up : Bool) (x : Int) : Fit (hexEnd dot up lead ds x) := by
  have h1 := ptL_len dot lead ds
  have h2 := powL_len ([112] : List UInt8) (e := x) (least := 2) (by decide)
  have ha : Asc ([48, 120] ++ (ptL dot lead ds ++ powL [112] x 2)) := Asc.app (by decide) ((ptL_asc hl.2 hd.2 dot).app (powL_asc (by decide) x 2))
  have hlen : ([48, 120] ++ (ptL dot lead ds ++ powL [112] x 2)).length ≤ 100000 := by simp at h2 ⊢; omega
  unfold hexEnd
  split
  · refine ⟨fun c hc => ?_, by unfold Lib.toUpperA; rw [List.length_map]; exact hlen⟩
    unfold Lib.toUpperA at hc
    obtain ⟨b, hb, rfl⟩ := List.mem_map.1 hc
    exact upper_asc b (ha b hb)
  · exact ⟨ha, hlen⟩
theorem hexTail_fit (dot up : Bool) {lead : List UInt8} (hl : lead.length ≤ 10 ∧ Asc lead) {part : Nat} (hp : part ≤ 18446744073709551615) (x : Int) {prec : Int} (hq : -1 ≤ prec ∧ prec ≤ 1000) : Fit (hexTail dot up lead part x prec) := by
  have hs := sixL_len hp
  unfold hexTail
  split
  · exact hexEnd_fit hl ⟨by have := rz_len (sixL part); omega, rz_asc (six_asc _)⟩ dot up x
  · split
    · have hf := fillL_len (sixL part) prec
      exact hexEnd_fit hl ⟨by omega, fillL_asc (six_asc _) _⟩ dot up x
    · unfold hexMid
      dsimp only
      refine hexEnd_fit hl ?_ dot up _
      split
      · exact ⟨by decide, Asc.nil⟩
      · refine ⟨?_, (six_asc _).take _⟩
        rw [List.length_take]
        omega
theorem hex_fit (m : Nat) (e : Int) {prec : Int} (hq : -1 ≤ prec ∧ prec ≤ 1000) (dot up : Bool) : Fit (hexL m e prec dot up) := by
  unfold hexL
  split
  · exact hexTail_fit dot up ⟨by decide, by decide⟩ (by decide) _ hq
  · exact hexTail_fit dot up ⟨by decide, by decide⟩ (by omega) _ hq
theorem six_ok {prec : Int} (hq : -1 ≤ prec ∧ prec ≤ 1000) : 0 ≤ six prec ∧ six prec ≤ 1000 := by unfold six; split <;> omega
theorem rest_fit (wide : Bool) {p : Nat} (hp : p < ii wide) {m : Nat} (hm : m < 18446744073709551616) {e : Int} (h : -1200 ≤ e ∧ e ≤ 1200) {prec : Int} (hq : -1 ≤ prec ∧ prec ≤ 1000) (v : Int) (sharp : Bool) : Fit (restL wide p m e prec v sharp) := by
  have hn := exD_near hm h
  unfold restL
  repeat' split
  · exact scaled_fit hn _ _ (six_ok hq)
  · exact fixed_fit hn _ (six_ok hq)
  · exact genOf_fit wide hp hm h hq _ _
  · exact bin_fit m e
  · exact hex_fit m e hq _ _
def endL (sign rest : List UInt8) (minus zero : Bool) (wid : Int) : List UInt8 :=
  padL (sign ++ (if zero && !minus then List.replicate (max 0 (min wid 1000) - sign.length - rest.length).toNat 48 ++ rest else rest)) minus false wid
theorem end_ev {sign rest : List UInt8} (hs : sign.length ≤ 1 ∧ Asc sign) (hr : Fit rest) (plus minus sharp space zero : Bool) (wid prec v : Int) :
    Ev (fun k => floats_Float.j3 k (S sign) (S rest) plus minus sharp space zero wid prec v) (S (endL sign rest minus zero wid), true) := by
  have ha := hr.1
  have hl := hr.2
  have key : ∀ u : Bool, Ev (fun k => floats_Float.j4 k (S sign) (S rest) u plus minus sharp space zero wid prec v) (S (padL (sign ++ (if u then List.replicate (max 0 (min wid 1000) - sign.length - rest.length).toNat 48 ++ rest else rest)) minus false wid), true) := by
    intro u
    refine Ev.step (fun k => by simp only [floats_Float.j4]; rfl) ?_
    cases u with
    | true =>
      refine Ev.congr (fun k => if_pos rfl) ?_
      rw [if_pos rfl, size_S, size_S, mx_eq, mn_eq, w64 (x := max 0 (min wid 1000) - (sign.length : Int)) (by omega) (by omega), w64 (by omega) (by omega)]
      have hf := fill_eq 48 (max 0 (min wid 1000) - (sign.length : Int) - (rest.length : Int))
      rw [show (((48 : UInt8).toNat : Nat) : Int) = 48 from rfl, show (min (max 0 (min wid 1000) - (sign.length : Int) - (rest.length : Int)) 1000).toNat = (max 0 (min wid 1000) - (sign.length : Int) - (rest.length : Int)).toNat by omega] at hf
      rw [hf]
      simp only [Option.bind_some]
      generalize hz : (max 0 (min wid 1000) - (sign.length : Int) - (rest.length : Int)).toNat = n
      have hn : n ≤ 1000 := by omega
      refine Ev.congr (fun k => if_pos (by rw [size_S, List.length_replicate]; omega)) ?_
      rw [S_app2]
      refine Ev.congr (fun k => if_pos (by rw [size_S, List.length_append, List.length_replicate]; omega)) ?_
      rw [S_app2, pad_eq (hs.2.app ((Asc.rep n (by decide)).app ha)) (by rw [List.length_append, List.length_append, List.length_replicate]; omega)]
      exact Ev.now _
    | false =>
      refine Ev.congr (fun k => if_neg (by simp)) ?_
      show Ev _ (S (padL (sign ++ rest) minus false wid), true)
      refine Ev.congr (fun k => if_pos (by rw [size_S, size_S]; omega)) ?_
      rw [S_app2, pad_eq (hs.2.app ha) (by rw [List.length_append]; omega)]
      exact Ev.now _
  refine Ev.step (fun k => by simp only [floats_Float.j3]; rfl) ?_
  unfold endL
  cases zero with
  | true => exact Ev.congr (fun k => if_pos rfl) (key (!minus))
  | false => exact Ev.congr (fun k => if_neg (by simp)) (key false)
def floatS (wide : Bool) (a : Nat) (plus minus sharp space zero : Bool) (wid prec v : Int) : ByteArray × Bool :=
  if codeV v = 0 then (⟨#[]⟩, false)
  else if bareN wide a < ii wide then (S (endL (signL (a / tt wide % 2 == 1) 0 plus space) (restL wide (bareN wide a) (fM (ff wide) (bareN wide a)) ((fE (ff wide) (bareN wide a) : Int) - (ll wide : Int)) (clamp prec) v sharp) minus zero wid), true)
  else if bareN wide a = ii wide then (S (endL (signL (a / tt wide % 2 == 1) 1 plus space) [73, 110, 102] minus false wid), true)
  else (S (endL (signL (a / tt wide % 2 == 1) 2 plus space) [78, 97, 78] minus false wid), true)
theorem sign_ev {R : ByteArray × Bool} (x0 x1 x9 x10 x11 x12 : Int) (neg plus minus sharp space zero : Bool) (wid prec v : Int)
    (h : Ev (fun k => floats_Float.j2 k x0 x1 x9 x10 x11 x12 (S (signL neg x11 plus space)) plus minus sharp space zero wid prec v) R) (u : Bool) (hu : u = decide (neg = true ∧ x11 ≠ 2)) :
    Ev (fun k => floats_Float.j1 k x0 x1 x9 x10 x11 x12 (⟨#[]⟩ : ByteArray) u plus minus sharp space zero wid prec v) R := by
  unfold signL at h
  refine Ev.step (fun k => by simp only [floats_Float.j1]; rfl) ?_
  by_cases c : neg = true ∧ x11 ≠ 2
  · have : u = true := by rw [hu]; exact decide_eq_true c
    subst this
    rw [if_pos c] at h
    exact Ev.congr (fun k => if_pos rfl) h
  · have : u = false := by rw [hu]; exact decide_eq_false c
    subst this
    rw [if_neg c] at h
    refine Ev.congr (fun k => if_neg (by simp)) ?_
    cases plus with
    | true => exact Ev.congr (fun k => if_pos rfl) h
    | false =>
      refine Ev.congr (fun k => if_neg (by simp)) ?_
      cases space with
      | true => exact Ev.congr (fun k => if_pos rfl) h
      | false =>
        refine Ev.congr (fun k => if_neg (by simp)) ?_
        by_cases c1 : x11 = 1
        · rw [if_neg (by simp), if_neg (by simp), if_pos c1] at h
          exact Ev.congr (fun k => if_pos c1) h
        · rw [if_neg (by simp), if_neg (by simp), if_neg c1] at h
          exact Ev.congr (fun k => if_neg c1) h
theorem mxn_clamp (prec : Int) : mx (-1) (mn prec 1000) = clamp prec := by rw [mx_eq, mn_eq]; rfl
theorem rest_ev (wide : Bool) {a p : Nat} (ha : a < 18446744073709551616) (hb : bareN wide a = p) (hp : p < ii wide) {m : Nat} (hm : m < 18446744073709551616) {e : Int} (h : -1200 ≤ e ∧ e ≤ 1200) {sign : List UInt8} (hs : sign.length ≤ 1 ∧ Asc sign) (plus minus sharp space zero : Bool) (wid prec v : Int) (hc : codeV v ≠ 0) :
    Ev (fun k => floats_Float.j2 k (a : Int) (szB wide) (m : Int) e 0 (codeV v) (S sign) plus minus sharp space zero wid prec v) (S (endL sign (restL wide p m e (clamp prec) v sharp) minus zero wid), true) := by
  have hq := clamp_ok prec
  have hfit := rest_fit wide hp hm h hq v sharp
  have hend := end_ev hs hfit plus minus sharp space zero wid prec v
  have hsl := (shortL_ok wide hp).2
  have hcl := codeV_le v
  refine Ev.step (fun k => by simp only [floats_Float.j2]; rfl) ?_
  refine Ev.congr (fun k => if_neg (by decide)) ?_
  refine Ev.congr (fun k => if_neg (by decide)) ?_
  rw [mxn_clamp]
  have way : ∀ dot : Bool, dot = (sharp && v != 118) → Ev (fun k => if codeV v = 1 then ((floats_float_scaled.f k (a : Int) (szB wide) (m : Int) e (clamp prec) dot v).bind fun t456 => (floats_Float.j3 k (S sign) t456 plus minus sharp space zero wid prec v)) else (if codeV v = 2 then ((floats_float_fixed.f k (a : Int) (szB wide) (m : Int) e (clamp prec) dot v).bind fun t457 => (floats_Float.j3 k (S sign) t457 plus minus sharp space zero wid prec v)) else (if codeV v = 3 then ((floats_float_general.f k (a : Int) (szB wide) (m : Int) e (clamp prec) dot v).bind fun t458 => (floats_Float.j3 k (S sign) t458 plus minus sharp space zero wid prec v)) else (if codeV v = 4 then ((floats_float_binary.f (a : Int) (szB wide) (m : Int) e (clamp prec) dot v).bind fun t459 => (floats_Float.j3 k (S sign) t459 plus minus sharp space zero wid prec v)) else (if codeV v = 5 then ((floats_float_hex.f k (a : Int) (szB wide) (m : Int) e (clamp prec) dot v).bind fun t460 => (floats_Float.j3 k (S sign) t460 plus minus sharp space zero wid prec v)) else none)))))
      (S (endL sign (restL wide p m e (clamp prec) v sharp) minus zero wid), true) := by
    intro dot hd
    unfold restL at hend ⊢
    rw [← hd] at hend ⊢
    by_cases c1 : codeV v = 1
    · rw [if_pos c1] at hend ⊢
      exact Ev.congr (fun k => if_pos c1) (Ev.bind (scaled_ev _ _ hm h hq v dot) hend)
    · rw [if_neg c1] at hend ⊢
      refine Ev.congr (fun k => if_neg c1) ?_
      by_cases c2 : codeV v = 2
      · rw [if_pos c2] at hend ⊢
        exact Ev.congr (fun k => if_pos c2) (Ev.bind (fixed_ev _ _ hm h hq v dot) hend)
      · rw [if_neg c2] at hend ⊢
        refine Ev.congr (fun k => if_neg c2) ?_
        by_cases c3 : codeV v = 3
        · rw [if_pos c3] at hend ⊢
          exact Ev.congr (fun k => if_pos c3) (Ev.bind (gen_ev wide ha hb hp hsl hm h hq v dot) hend)
        · rw [if_neg c3] at hend ⊢
          refine Ev.congr (fun k => if_neg c3) ?_
          by_cases c4 : codeV v = 4
          · rw [if_pos c4] at hend ⊢
            refine Ev.congr (fun k => if_pos c4) ?_
            rw [binary_eq _ _ _ _ _ (by omega) (by omega)]
            exact hend
          · rw [if_neg c4] at hend ⊢
            refine Ev.congr (fun k => if_neg c4) ?_
            exact Ev.congr (fun k => if_pos (by omega)) (Ev.bind (hex_ev _ _ v dot hm h hq) hend)
  cases sharp with
  | true => exact Ev.congr (fun k => if_pos rfl) (way (v != 118) (by simp))
  | false => exact Ev.congr (fun k => if_neg (by simp)) (way false rfl)
theorem float_ev (wide : Bool) {a : Nat} (ha : a < 18446744073709551616) (plus minus sharp space zero : Bool) (wid prec v : Int) :
    Ev (fun k => floats_Float.f k (a : Int) (szB wide) plus minus sharp space zero wid prec v) (floatS wide a plus minus sharp space zero wid prec v) := by
  have hi := ii_lt wide
  unfold floats_Float.f floatS
  rw [parts_eq wide a ha]
  simp only [Option.bind_some]
  refine Ev.bind (chosen_ev v) ?_
  have hk : ∀ x : Int, x = (partsS wide a).2.2.2 → x ≠ 3 := by
    intro x hx
    rw [hx]
    unfold partsS
    split
    · exact (by decide : (0 : Int) ≠ 3)
    · dsimp only; split <;> decide
  refine Ev.congr (fun k => if_neg (hk _ rfl)) ?_
  refine Ev.step (fun k => by simp only [floats_Float.j0]; rfl) ?_
  by_cases c0 : codeV v = 0
  · rw [if_pos c0]
    exact Ev.congr (fun k => if_pos (beq_iff_eq.mpr c0)) (Ev.now _)
  · rw [if_neg c0]
    refine Ev.congr (fun k => if_neg (by rw [beq_eq_false_iff_ne.mpr c0]; simp)) ?_
    have signs : ∀ {R : ByteArray × Bool} (x9 x10 x11 : Int) (neg : Bool), Ev (fun k => floats_Float.j2 k (a : Int) (szB wide) x9 x10 x11 (codeV v) (S (signL neg x11 plus space)) plus minus sharp space zero wid prec v) R →
        Ev (fun k => if neg = true then (floats_Float.j1 k (a : Int) (szB wide) x9 x10 x11 (codeV v) (⟨#[]⟩ : ByteArray) (x11 != 2) plus minus sharp space zero wid prec v) else (floats_Float.j1 k (a : Int) (szB wide) x9 x10 x11 (codeV v) (⟨#[]⟩ : ByteArray) false plus minus sharp space zero wid prec v)) R := by
      intro R x9 x10 x11 neg h
      cases neg with
      | true => exact Ev.congr (fun k => if_pos rfl) (sign_ev _ _ _ _ _ _ true plus minus sharp space zero wid prec v h _ (by rw [Bool.eq_iff_iff]; simp))
      | false => exact Ev.congr (fun k => if_neg (by simp)) (sign_ev _ _ _ _ _ _ false plus minus sharp space zero wid prec v h _ (by rw [Bool.eq_iff_iff]; simp))
    by_cases c1 : bareN wide a < ii wide
    · rw [if_pos c1]
      have hb := fEl wide (Nat.le_of_lt c1)
      have hb2 := fE_le wide (Nat.le_of_lt c1)
      have e1 : partsS wide a = ((a / tt wide % 2 == 1 : Bool), (fM (ff wide) (bareN wide a) : Int), (fE (ff wide) (bareN wide a) : Int) - (ll wide : Int), 0) := by
        unfold partsS; rw [if_pos c1]
      rw [e1]
      exact signs _ _ _ _ (rest_ev (m := fM (ff wide) (bareN wide a)) (e := (fE (ff wide) (bareN wide a) : Int) - (ll wide : Int)) wide ha rfl c1 (by omega) (by omega) (signL_ok _ _ _ _) plus minus sharp space zero wid prec v c0)
    · rw [if_neg c1]
      have e1 : partsS wide a = ((a / tt wide % 2 == 1 : Bool), 0, 0, if bareN wide a = ii wide then 1 else 2) := by
        unfold partsS; rw [if_neg c1]
      rw [e1]
      by_cases c2 : bareN wide a = ii wide
      · rw [if_pos c2, if_pos c2]
        refine signs _ _ _ _ ?_
        refine Ev.step (fun k => by simp only [floats_Float.j2]; rfl) ?_
        refine Ev.congr (fun k => if_neg (by decide)) ?_
        refine Ev.congr (fun k => if_pos (by first | trivial | rfl)) ?_
        exact end_ev (rest := [73, 110, 102]) (signL_ok _ _ _ _) ⟨by decide, by decide⟩ plus minus sharp space false wid prec v
      · rw [if_neg c2, if_neg c2]
        refine signs _ _ _ _ ?_
        refine Ev.step (fun k => by simp only [floats_Float.j2]; rfl) ?_
        refine Ev.congr (fun k => if_pos (by first | trivial | rfl)) ?_
        exact end_ev (rest := [78, 97, 78]) (signL_ok _ _ _ _) ⟨by decide, by decide⟩ plus minus sharp space false wid prec v
end Go.Proofs.YtecpgdfnamkfdaaGreatDoor.Pure
end
section
namespace Go.Proofs.YtecpgdfnamkfdaaGreatDoor.Fn
open Go.RowKit Go.Proofs.YtecpgdfnamkfdaaGreatDoorW.PrintWords Go.Proofs.YtecpgdfnamkfdaaGreatDoorW.PrintLast Go.Proofs.YtecpgdfnamkfdaaGreatDoorW.PrintMore
attribute [local go_sem] fnW_0 fnW_1 fnW_2 fnW_3 fnW_4 fnW_5 fnW_guard fnW_eql max2_int min2_int max_two min_two
set_option linter.unusedVariables false
set_option linter.unusedSimpArgs false
def platenlaw06_lives.f (k : Nat)  : Option (Bool) := (platenlaw06_bare.f 101).bind fun bt820 => ((floats_Float.f k 4609434218613702656 64 bt820.1 bt820.2.1 bt820.2.2.1 bt820.2.2.2.1 bt820.2.2.2.2.1 bt820.2.2.2.2.2.1 bt820.2.2.2.2.2.2.1 bt820.2.2.2.2.2.2.2).bind fun bt828 => ((platenlaw06_bare.f 118).bind fun bt830 => ((floats_Float.f k 4591870180066957722 64 bt830.1 bt830.2.1 bt830.2.2.1 bt830.2.2.2.1 bt830.2.2.2.2.1 bt830.2.2.2.2.2.1 bt830.2.2.2.2.2.2.1 bt830.2.2.2.2.2.2.2).bind fun bt838 => ((platenlaw06_bare.f 100).bind fun bt840 => ((floats_Float.f k 0 64 bt840.1 bt840.2.1 bt840.2.2.1 bt840.2.2.2.1 bt840.2.2.2.2.1 bt840.2.2.2.2.2.1 bt840.2.2.2.2.2.2.1 bt840.2.2.2.2.2.2.2).bind fun bt848 => (if bt828.2 = true then (if bt838.2 = true then (if bt848.2 = true then (some false) else (if bt828.1.toList = ([49, 46, 53, 48, 48, 48, 48, 48, 101, 43, 48, 48] : List UInt8) then (some (bt838.1.toList == ([48, 46, 49] : List UInt8))) else (some false))) else (some false)) else (some false)))))))
set_option maxHeartbeats 8000000 in
set_option maxRecDepth 100000 in
theorem platenlaw06_lives.calls (k : Nat)  (r : Bool) (w : World) (h : platenlaw06_lives.f k  = some r) :
  Calls Tryz.prog 23 #[] w fun e w' => e = .returned (.bool r) ∧ Below w.heap.size w w' := by
 have HB := Aside0.mk (Below.refl w.heap.size w)
 have H : ((platenlaw06_bare.f 101).bind fun bt820 => ((floats_Float.f k 4609434218613702656 64 bt820.1 bt820.2.1 bt820.2.2.1 bt820.2.2.2.1 bt820.2.2.2.2.1 bt820.2.2.2.2.2.1 bt820.2.2.2.2.2.2.1 bt820.2.2.2.2.2.2.2).bind fun bt828 => ((platenlaw06_bare.f 118).bind fun bt830 => ((floats_Float.f k 4591870180066957722 64 bt830.1 bt830.2.1 bt830.2.2.1 bt830.2.2.2.1 bt830.2.2.2.2.1 bt830.2.2.2.2.2.1 bt830.2.2.2.2.2.2.1 bt830.2.2.2.2.2.2.2).bind fun bt838 => ((platenlaw06_bare.f 100).bind fun bt840 => ((floats_Float.f k 0 64 bt840.1 bt840.2.1 bt840.2.2.1 bt840.2.2.2.1 bt840.2.2.2.2.1 bt840.2.2.2.2.2.1 bt840.2.2.2.2.2.2.1 bt840.2.2.2.2.2.2.2).bind fun bt848 => (if bt828.2 = true then (if bt838.2 = true then (if bt848.2 = true then (some false) else (if bt828.1.toList = ([49, 46, 53, 48, 48, 48, 48, 48, 101, 43, 48, 48] : List UInt8) then (some (bt838.1.toList == ([48, 46, 49] : List UInt8))) else (some false))) else (some false)) else (some false)))))))) = some r := h
 clear h
 replace H := bs H
 obtain ⟨⟨t820, t821, t822, t823, t824, t825, t826, t827⟩, A1, H⟩ := H
 dsimp only at H
 replace H := bs H
 obtain ⟨⟨t828, t829⟩, A2, H⟩ := H
 dsimp only at H
 replace H := bs H
 obtain ⟨⟨t830, t831, t832, t833, t834, t835, t836, t837⟩, A3, H⟩ := H
 dsimp only at H
 replace H := bs H
 obtain ⟨⟨t838, t839⟩, A4, H⟩ := H
 dsimp only at H
 replace H := bs H
 obtain ⟨⟨t840, t841, t842, t843, t844, t845, t846, t847⟩, A5, H⟩ := H
 dsimp only at H
 replace H := bs H
 obtain ⟨⟨t848, t849⟩, A6, H⟩ := H
 dsimp only at H
 by_cases c7 : t829 = true
 ·subst c7
  replace H := hT H
  by_cases c8 : t839 = true
  ·subst c8
   replace H := hT H
   by_cases c9 : t849 = true
   ·subst c9
    replace H := hT H
    obtain rfl := Option.some.inj H
    go_enter Tryz.func23, Tryz.ntmps23
    go_wp2_with (first | ((with_reducible refine gate_callee (f := 30) rfl ?_); refine goesL_ (some 8) rfl rfl Tryz.func30 (by kernel_rfl) rfl #[.int .i32 101] rfl lz ?_; (with_reducible refine (platenlaw06_bare.calls 101 t820 t821 t822 t823 t824 t825 t826 t827 _ A1.out).mono ?_); rintro e w10 ⟨rfl, hb⟩; refine ⟨_, rfl, ?_⟩; replace HB := bN bz hb; (try clear hb); (try clear hb2); (try clear hk); (try clear hi)) | ((with_reducible refine gate_callee (f := 25) rfl ?_); refine goesL_ (some 9) rfl rfl Tryz.func25 (by kernel_rfl) rfl #[.int .u64 4609434218613702656, .int .i64 64, .agg #[.bool t820, .bool t821, .bool t822, .bool t823, .bool t824, .int .i64 t825, .int .i64 t826, .int .i32 t827]] rfl lz ?_; (with_reducible refine (floats_Float.calls k 4609434218613702656 64 t820 t821 t822 t823 t824 t825 t826 t827 t828 true _ A2.out).mono ?_); rintro e w11 ⟨rfl, hb⟩; refine ⟨_, rfl, ?_⟩; replace HB := bN bz hb; (try clear hb); (try clear hb2); (try clear hk); (try clear hi)) | ((with_reducible refine gate_callee (f := 30) rfl ?_); refine goesL_ (some 13) rfl rfl Tryz.func30 (by kernel_rfl) rfl #[.int .i32 118] rfl lz ?_; (with_reducible refine (platenlaw06_bare.calls 118 t830 t831 t832 t833 t834 t835 t836 t837 _ A3.out).mono ?_); rintro e w12 ⟨rfl, hb⟩; refine ⟨_, rfl, ?_⟩; replace HB := bN bz hb; (try clear hb); (try clear hb2); (try clear hk); (try clear hi)) | ((with_reducible refine gate_callee (f := 25) rfl ?_); refine goesL_ (some 14) rfl rfl Tryz.func25 (by kernel_rfl) rfl #[.int .u64 4591870180066957722, .int .i64 64, .agg #[.bool t830, .bool t831, .bool t832, .bool t833, .bool t834, .int .i64 t835, .int .i64 t836, .int .i32 t837]] rfl lz ?_; (with_reducible refine (floats_Float.calls k 4591870180066957722 64 t830 t831 t832 t833 t834 t835 t836 t837 t838 true _ A4.out).mono ?_); rintro e w13 ⟨rfl, hb⟩; refine ⟨_, rfl, ?_⟩; replace HB := bN bz hb; (try clear hb); (try clear hb2); (try clear hk); (try clear hi)) | ((with_reducible refine gate_callee (f := 30) rfl ?_); refine goesL_ (some 18) rfl rfl Tryz.func30 (by kernel_rfl) rfl #[.int .i32 100] rfl lz ?_; (with_reducible refine (platenlaw06_bare.calls 100 t840 t841 t842 t843 t844 t845 t846 t847 _ A5.out).mono ?_); rintro e w14 ⟨rfl, hb⟩; refine ⟨_, rfl, ?_⟩; replace HB := bN bz hb; (try clear hb); (try clear hb2); (try clear hk); (try clear hi)) | ((with_reducible refine gate_callee (f := 25) rfl ?_); refine goesL_ (some 19) rfl rfl Tryz.func25 (by kernel_rfl) rfl #[.int .u64 0, .int .i64 64, .agg #[.bool t840, .bool t841, .bool t842, .bool t843, .bool t844, .int .i64 t845, .int .i64 t846, .int .i32 t847]] rfl lz ?_; (with_reducible refine (floats_Float.calls k 0 64 t840 t841 t842 t843 t844 t845 t846 t847 t848 true _ A6.out).mono ?_); rintro e w15 ⟨rfl, hb⟩; refine ⟨_, rfl, ?_⟩; replace HB := bN bz hb; (try clear hb); (try clear hb2); (try clear hk); (try clear hi)))
    go_ret
    exact ⟨ez, bz⟩
   ·replace c9 := Bool.eq_false_iff.mpr c9
    subst c9
    replace H := hF H
    by_cases c16 : t828.toList = ([49, 46, 53, 48, 48, 48, 48, 48, 101, 43, 48, 48] : List UInt8)
    ·replace H := hE H c16
     have c16b0 : (t828.toList == ([49, 46, 53, 48, 48, 48, 48, 48, 101, 43, 48, 48] : List UInt8)) = true := beq_iff_eq.mpr c16
     have c16b1 : (t828.toList != ([49, 46, 53, 48, 48, 48, 48, 48, 101, 43, 48, 48] : List UInt8)) = false := bne_eq_false_iff_eq.mpr c16
     clear c16
     obtain rfl := Option.some.inj H
     go_enter Tryz.func23, Tryz.ntmps23
     go_wp2_with (first | ((with_reducible refine gate_callee (f := 30) rfl ?_); refine goesL_ (some 8) rfl rfl Tryz.func30 (by kernel_rfl) rfl #[.int .i32 101] rfl lz ?_; (with_reducible refine (platenlaw06_bare.calls 101 t820 t821 t822 t823 t824 t825 t826 t827 _ A1.out).mono ?_); rintro e w17 ⟨rfl, hb⟩; refine ⟨_, rfl, ?_⟩; replace HB := bN bz hb; (try clear hb); (try clear hb2); (try clear hk); (try clear hi)) | ((with_reducible refine gate_callee (f := 25) rfl ?_); refine goesL_ (some 9) rfl rfl Tryz.func25 (by kernel_rfl) rfl #[.int .u64 4609434218613702656, .int .i64 64, .agg #[.bool t820, .bool t821, .bool t822, .bool t823, .bool t824, .int .i64 t825, .int .i64 t826, .int .i32 t827]] rfl lz ?_; (with_reducible refine (floats_Float.calls k 4609434218613702656 64 t820 t821 t822 t823 t824 t825 t826 t827 t828 true _ A2.out).mono ?_); rintro e w18 ⟨rfl, hb⟩; refine ⟨_, rfl, ?_⟩; replace HB := bN bz hb; (try clear hb); (try clear hb2); (try clear hk); (try clear hi)) | ((with_reducible refine gate_callee (f := 30) rfl ?_); refine goesL_ (some 13) rfl rfl Tryz.func30 (by kernel_rfl) rfl #[.int .i32 118] rfl lz ?_; (with_reducible refine (platenlaw06_bare.calls 118 t830 t831 t832 t833 t834 t835 t836 t837 _ A3.out).mono ?_); rintro e w19 ⟨rfl, hb⟩; refine ⟨_, rfl, ?_⟩; replace HB := bN bz hb; (try clear hb); (try clear hb2); (try clear hk); (try clear hi)) | ((with_reducible refine gate_callee (f := 25) rfl ?_); refine goesL_ (some 14) rfl rfl Tryz.func25 (by kernel_rfl) rfl #[.int .u64 4591870180066957722, .int .i64 64, .agg #[.bool t830, .bool t831, .bool t832, .bool t833, .bool t834, .int .i64 t835, .int .i64 t836, .int .i32 t837]] rfl lz ?_; (with_reducible refine (floats_Float.calls k 4591870180066957722 64 t830 t831 t832 t833 t834 t835 t836 t837 t838 true _ A4.out).mono ?_); rintro e w20 ⟨rfl, hb⟩; refine ⟨_, rfl, ?_⟩; replace HB := bN bz hb; (try clear hb); (try clear hb2); (try clear hk); (try clear hi)) | ((with_reducible refine gate_callee (f := 30) rfl ?_); refine goesL_ (some 18) rfl rfl Tryz.func30 (by kernel_rfl) rfl #[.int .i32 100] rfl lz ?_; (with_reducible refine (platenlaw06_bare.calls 100 t840 t841 t842 t843 t844 t845 t846 t847 _ A5.out).mono ?_); rintro e w21 ⟨rfl, hb⟩; refine ⟨_, rfl, ?_⟩; replace HB := bN bz hb; (try clear hb); (try clear hb2); (try clear hk); (try clear hi)) | ((with_reducible refine gate_callee (f := 25) rfl ?_); refine goesL_ (some 19) rfl rfl Tryz.func25 (by kernel_rfl) rfl #[.int .u64 0, .int .i64 64, .agg #[.bool t840, .bool t841, .bool t842, .bool t843, .bool t844, .int .i64 t845, .int .i64 t846, .int .i32 t847]] rfl lz ?_; (with_reducible refine (floats_Float.calls k 0 64 t840 t841 t842 t843 t844 t845 t846 t847 t848 false _ A6.out).mono ?_); rintro e w22 ⟨rfl, hb⟩; refine ⟨_, rfl, ?_⟩; replace HB := bN bz hb; (try clear hb); (try clear hb2); (try clear hk); (try clear hi)))
     go_ret
     exact ⟨ez, bz⟩
    ·replace H := hN H c16
     have c16b0 : (t828.toList == ([49, 46, 53, 48, 48, 48, 48, 48, 101, 43, 48, 48] : List UInt8)) = false := beq_eq_false_iff_ne.mpr c16
     have c16b1 : (t828.toList != ([49, 46, 53, 48, 48, 48, 48, 48, 101, 43, 48, 48] : List UInt8)) = true := bne_iff_ne.mpr c16
     obtain rfl := Option.some.inj H
     go_enter Tryz.func23, Tryz.ntmps23
     go_wp2_with (first | ((with_reducible refine gate_callee (f := 30) rfl ?_); refine goesL_ (some 8) rfl rfl Tryz.func30 (by kernel_rfl) rfl #[.int .i32 101] rfl lz ?_; (with_reducible refine (platenlaw06_bare.calls 101 t820 t821 t822 t823 t824 t825 t826 t827 _ A1.out).mono ?_); rintro e w23 ⟨rfl, hb⟩; refine ⟨_, rfl, ?_⟩; replace HB := bN bz hb; (try clear hb); (try clear hb2); (try clear hk); (try clear hi)) | ((with_reducible refine gate_callee (f := 25) rfl ?_); refine goesL_ (some 9) rfl rfl Tryz.func25 (by kernel_rfl) rfl #[.int .u64 4609434218613702656, .int .i64 64, .agg #[.bool t820, .bool t821, .bool t822, .bool t823, .bool t824, .int .i64 t825, .int .i64 t826, .int .i32 t827]] rfl lz ?_; (with_reducible refine (floats_Float.calls k 4609434218613702656 64 t820 t821 t822 t823 t824 t825 t826 t827 t828 true _ A2.out).mono ?_); rintro e w24 ⟨rfl, hb⟩; refine ⟨_, rfl, ?_⟩; replace HB := bN bz hb; (try clear hb); (try clear hb2); (try clear hk); (try clear hi)) | ((with_reducible refine gate_callee (f := 30) rfl ?_); refine goesL_ (some 13) rfl rfl Tryz.func30 (by kernel_rfl) rfl #[.int .i32 118] rfl lz ?_; (with_reducible refine (platenlaw06_bare.calls 118 t830 t831 t832 t833 t834 t835 t836 t837 _ A3.out).mono ?_); rintro e w25 ⟨rfl, hb⟩; refine ⟨_, rfl, ?_⟩; replace HB := bN bz hb; (try clear hb); (try clear hb2); (try clear hk); (try clear hi)) | ((with_reducible refine gate_callee (f := 25) rfl ?_); refine goesL_ (some 14) rfl rfl Tryz.func25 (by kernel_rfl) rfl #[.int .u64 4591870180066957722, .int .i64 64, .agg #[.bool t830, .bool t831, .bool t832, .bool t833, .bool t834, .int .i64 t835, .int .i64 t836, .int .i32 t837]] rfl lz ?_; (with_reducible refine (floats_Float.calls k 4591870180066957722 64 t830 t831 t832 t833 t834 t835 t836 t837 t838 true _ A4.out).mono ?_); rintro e w26 ⟨rfl, hb⟩; refine ⟨_, rfl, ?_⟩; replace HB := bN bz hb; (try clear hb); (try clear hb2); (try clear hk); (try clear hi)) | ((with_reducible refine gate_callee (f := 30) rfl ?_); refine goesL_ (some 18) rfl rfl Tryz.func30 (by kernel_rfl) rfl #[.int .i32 100] rfl lz ?_; (with_reducible refine (platenlaw06_bare.calls 100 t840 t841 t842 t843 t844 t845 t846 t847 _ A5.out).mono ?_); rintro e w27 ⟨rfl, hb⟩; refine ⟨_, rfl, ?_⟩; replace HB := bN bz hb; (try clear hb); (try clear hb2); (try clear hk); (try clear hi)) | ((with_reducible refine gate_callee (f := 25) rfl ?_); refine goesL_ (some 19) rfl rfl Tryz.func25 (by kernel_rfl) rfl #[.int .u64 0, .int .i64 64, .agg #[.bool t840, .bool t841, .bool t842, .bool t843, .bool t844, .int .i64 t845, .int .i64 t846, .int .i32 t847]] rfl lz ?_; (with_reducible refine (floats_Float.calls k 0 64 t840 t841 t842 t843 t844 t845 t846 t847 t848 false _ A6.out).mono ?_); rintro e w28 ⟨rfl, hb⟩; refine ⟨_, rfl, ?_⟩; replace HB := bN bz hb; (try clear hb); (try clear hb2); (try clear hk); (try clear hi)))
     go_ret
     exact ⟨ez, bz⟩
  ·replace c8 := Bool.eq_false_iff.mpr c8
   subst c8
   replace H := hF H
   obtain rfl := Option.some.inj H
   go_enter Tryz.func23, Tryz.ntmps23
   go_wp2_with (first | ((with_reducible refine gate_callee (f := 30) rfl ?_); refine goesL_ (some 8) rfl rfl Tryz.func30 (by kernel_rfl) rfl #[.int .i32 101] rfl lz ?_; (with_reducible refine (platenlaw06_bare.calls 101 t820 t821 t822 t823 t824 t825 t826 t827 _ A1.out).mono ?_); rintro e w29 ⟨rfl, hb⟩; refine ⟨_, rfl, ?_⟩; replace HB := bN bz hb; (try clear hb); (try clear hb2); (try clear hk); (try clear hi)) | ((with_reducible refine gate_callee (f := 25) rfl ?_); refine goesL_ (some 9) rfl rfl Tryz.func25 (by kernel_rfl) rfl #[.int .u64 4609434218613702656, .int .i64 64, .agg #[.bool t820, .bool t821, .bool t822, .bool t823, .bool t824, .int .i64 t825, .int .i64 t826, .int .i32 t827]] rfl lz ?_; (with_reducible refine (floats_Float.calls k 4609434218613702656 64 t820 t821 t822 t823 t824 t825 t826 t827 t828 true _ A2.out).mono ?_); rintro e w30 ⟨rfl, hb⟩; refine ⟨_, rfl, ?_⟩; replace HB := bN bz hb; (try clear hb); (try clear hb2); (try clear hk); (try clear hi)) | ((with_reducible refine gate_callee (f := 30) rfl ?_); refine goesL_ (some 13) rfl rfl Tryz.func30 (by kernel_rfl) rfl #[.int .i32 118] rfl lz ?_; (with_reducible refine (platenlaw06_bare.calls 118 t830 t831 t832 t833 t834 t835 t836 t837 _ A3.out).mono ?_); rintro e w31 ⟨rfl, hb⟩; refine ⟨_, rfl, ?_⟩; replace HB := bN bz hb; (try clear hb); (try clear hb2); (try clear hk); (try clear hi)) | ((with_reducible refine gate_callee (f := 25) rfl ?_); refine goesL_ (some 14) rfl rfl Tryz.func25 (by kernel_rfl) rfl #[.int .u64 4591870180066957722, .int .i64 64, .agg #[.bool t830, .bool t831, .bool t832, .bool t833, .bool t834, .int .i64 t835, .int .i64 t836, .int .i32 t837]] rfl lz ?_; (with_reducible refine (floats_Float.calls k 4591870180066957722 64 t830 t831 t832 t833 t834 t835 t836 t837 t838 false _ A4.out).mono ?_); rintro e w32 ⟨rfl, hb⟩; refine ⟨_, rfl, ?_⟩; replace HB := bN bz hb; (try clear hb); (try clear hb2); (try clear hk); (try clear hi)) | ((with_reducible refine gate_callee (f := 30) rfl ?_); refine goesL_ (some 18) rfl rfl Tryz.func30 (by kernel_rfl) rfl #[.int .i32 100] rfl lz ?_; (with_reducible refine (platenlaw06_bare.calls 100 t840 t841 t842 t843 t844 t845 t846 t847 _ A5.out).mono ?_); rintro e w33 ⟨rfl, hb⟩; refine ⟨_, rfl, ?_⟩; replace HB := bN bz hb; (try clear hb); (try clear hb2); (try clear hk); (try clear hi)) | ((with_reducible refine gate_callee (f := 25) rfl ?_); refine goesL_ (some 19) rfl rfl Tryz.func25 (by kernel_rfl) rfl #[.int .u64 0, .int .i64 64, .agg #[.bool t840, .bool t841, .bool t842, .bool t843, .bool t844, .int .i64 t845, .int .i64 t846, .int .i32 t847]] rfl lz ?_; (with_reducible refine (floats_Float.calls k 0 64 t840 t841 t842 t843 t844 t845 t846 t847 t848 t849 _ A6.out).mono ?_); rintro e w34 ⟨rfl, hb⟩; refine ⟨_, rfl, ?_⟩; replace HB := bN bz hb; (try clear hb); (try clear hb2); (try clear hk); (try clear hi)))
   go_ret
   exact ⟨ez, bz⟩
 ·replace c7 := Bool.eq_false_iff.mpr c7
  subst c7
  replace H := hF H
  obtain rfl := Option.some.inj H
  go_enter Tryz.func23, Tryz.ntmps23
  go_wp2_with (first | ((with_reducible refine gate_callee (f := 30) rfl ?_); refine goesL_ (some 8) rfl rfl Tryz.func30 (by kernel_rfl) rfl #[.int .i32 101] rfl lz ?_; (with_reducible refine (platenlaw06_bare.calls 101 t820 t821 t822 t823 t824 t825 t826 t827 _ A1.out).mono ?_); rintro e w35 ⟨rfl, hb⟩; refine ⟨_, rfl, ?_⟩; replace HB := bN bz hb; (try clear hb); (try clear hb2); (try clear hk); (try clear hi)) | ((with_reducible refine gate_callee (f := 25) rfl ?_); refine goesL_ (some 9) rfl rfl Tryz.func25 (by kernel_rfl) rfl #[.int .u64 4609434218613702656, .int .i64 64, .agg #[.bool t820, .bool t821, .bool t822, .bool t823, .bool t824, .int .i64 t825, .int .i64 t826, .int .i32 t827]] rfl lz ?_; (with_reducible refine (floats_Float.calls k 4609434218613702656 64 t820 t821 t822 t823 t824 t825 t826 t827 t828 false _ A2.out).mono ?_); rintro e w36 ⟨rfl, hb⟩; refine ⟨_, rfl, ?_⟩; replace HB := bN bz hb; (try clear hb); (try clear hb2); (try clear hk); (try clear hi)) | ((with_reducible refine gate_callee (f := 30) rfl ?_); refine goesL_ (some 13) rfl rfl Tryz.func30 (by kernel_rfl) rfl #[.int .i32 118] rfl lz ?_; (with_reducible refine (platenlaw06_bare.calls 118 t830 t831 t832 t833 t834 t835 t836 t837 _ A3.out).mono ?_); rintro e w37 ⟨rfl, hb⟩; refine ⟨_, rfl, ?_⟩; replace HB := bN bz hb; (try clear hb); (try clear hb2); (try clear hk); (try clear hi)) | ((with_reducible refine gate_callee (f := 25) rfl ?_); refine goesL_ (some 14) rfl rfl Tryz.func25 (by kernel_rfl) rfl #[.int .u64 4591870180066957722, .int .i64 64, .agg #[.bool t830, .bool t831, .bool t832, .bool t833, .bool t834, .int .i64 t835, .int .i64 t836, .int .i32 t837]] rfl lz ?_; (with_reducible refine (floats_Float.calls k 4591870180066957722 64 t830 t831 t832 t833 t834 t835 t836 t837 t838 t839 _ A4.out).mono ?_); rintro e w38 ⟨rfl, hb⟩; refine ⟨_, rfl, ?_⟩; replace HB := bN bz hb; (try clear hb); (try clear hb2); (try clear hk); (try clear hi)) | ((with_reducible refine gate_callee (f := 30) rfl ?_); refine goesL_ (some 18) rfl rfl Tryz.func30 (by kernel_rfl) rfl #[.int .i32 100] rfl lz ?_; (with_reducible refine (platenlaw06_bare.calls 100 t840 t841 t842 t843 t844 t845 t846 t847 _ A5.out).mono ?_); rintro e w39 ⟨rfl, hb⟩; refine ⟨_, rfl, ?_⟩; replace HB := bN bz hb; (try clear hb); (try clear hb2); (try clear hk); (try clear hi)) | ((with_reducible refine gate_callee (f := 25) rfl ?_); refine goesL_ (some 19) rfl rfl Tryz.func25 (by kernel_rfl) rfl #[.int .u64 0, .int .i64 64, .agg #[.bool t840, .bool t841, .bool t842, .bool t843, .bool t844, .int .i64 t845, .int .i64 t846, .int .i32 t847]] rfl lz ?_; (with_reducible refine (floats_Float.calls k 0 64 t840 t841 t842 t843 t844 t845 t846 t847 t848 t849 _ A6.out).mono ?_); rintro e w40 ⟨rfl, hb⟩; refine ⟨_, rfl, ?_⟩; replace HB := bN bz hb; (try clear hb); (try clear hb2); (try clear hk); (try clear hi)))
  go_ret
  exact ⟨ez, bz⟩
end Go.Proofs.YtecpgdfnamkfdaaGreatDoor.Fn
end
section
namespace Go.Proofs.YtecpgdfnamkfdaaGreatDoor.Pure
open Go.RowKit Go.Proofs.YtecpgdfnamkfdaaGreatDoorW.PrintWords Go.Proofs.YtecpgdfnamkfdaaGreatDoorW.PrintLast Go.Proofs.YtecpgdfnamkfdaaGreatDoorW.PrintMore Go.Proofs.YtecpgdfnamkfdaaGreatDoor.Fn
set_option linter.unusedVariables false
set_option linter.unusedSimpArgs false
theorem ex_e : floatS true 4609434218613702656 false false false false false (-1) (-1) 101 = (S [49, 46, 53, 48, 48, 48, 48, 48, 101, 43, 48, 48], true) := by decide +kernel
theorem ex_v : floatS true 4591870180066957722 false false false false false (-1) (-1) 118 = (S [48, 46, 49], true) := by
  have h0 : codeV 118 = 3 := by decide
  have h1 : bareN true 4591870180066957722 = 4591870180066957722 := by decide
  have h2 : (4591870180066957722 : Nat) < ii true := by decide
  unfold floatS
  rw [h1, if_neg (by rw [h0]; decide), if_pos h2]
  have hr : ∀ m e, restL true 4591870180066957722 m e (clamp (-1)) 118 false = [48, 46, 49] := by
    intro m e
    unfold restL genOf shortL
    rw [h0, if_neg (by decide), if_neg (by decide), if_pos rfl, if_pos (by decide), if_neg (by decide), tenth_short]
    decide
  rw [hr]
  decide
theorem lives6 : Ev (fun k => platenlaw06_lives.f k) true := by
  have h1 := float_ev true (a := 4609434218613702656) (by decide) false false false false false (-1) (-1) 101
  rw [ex_e] at h1
  have h2 := float_ev true (a := 4591870180066957722) (by decide) false false false false false (-1) (-1) 118
  rw [ex_v] at h2
  have h3 := float_ev true (a := 0) (by decide) false false false false false (-1) (-1) 100
  rw [show floatS true 0 false false false false false (-1) (-1) 100 = (⟨#[]⟩, false) from rfl] at h3
  unfold platenlaw06_lives.f platenlaw06_bare.f
  simp only [Option.bind_some]
  refine Ev.bind (g := fun k => floats_Float.f k 4609434218613702656 64 false false false false false (-1) (-1) 101) h1 ?_
  refine Ev.bind (g := fun k => floats_Float.f k 4591870180066957722 64 false false false false false (-1) (-1) 118) h2 ?_
  refine Ev.bind (g := fun k => floats_Float.f k 0 64 false false false false false (-1) (-1) 100) h3 ?_
  refine Ev.congr (fun k => ?_) (Ev.now _)
  rw [if_pos rfl, if_pos rfl, if_neg (by simp), if_pos (by rw [toList_L, L_S]), toList_L, L_S]
  rfl
theorem livesEnd6 : Ev (fun k => (platenlaw06_lives.f k).bind fun t => some t) true := Ev.bind lives6 (Ev.now _)
theorem sized6 (wide : Bool) : platenlaw06_sized.f wide = some (szB wide) := by cases wide <;> rfl
def HeadD (l : List UInt8) : Prop := ∃ c t, l = c :: t ∧ 48 ≤ c.toNat ∧ c.toNat ≤ 57
theorem HeadD.of {l : List UInt8} (h : AllD l) (hn : l ≠ []) : HeadD l := by
  cases l with
  | nil => exact absurd rfl hn
  | cons c t => exact ⟨c, t, rfl, h c List.mem_cons_self⟩
theorem HeadD.app {a : List UInt8} (h : HeadD a) (b : List UInt8) : HeadD (a ++ b) := by
  obtain ⟨c, t, rfl, h1⟩ := h
  exact ⟨c, t ++ b, rfl, h1⟩
theorem HeadD.pt {a : List UInt8} (h : HeadD a) (dot : Bool) (b : List UInt8) : HeadD (ptL dot a b) := by
  unfold ptL
  split
  · exact h
  · exact h.app _
theorem headD48 : HeadD [48] := ⟨48, [], rfl, by decide, by decide⟩
theorem sci_head {l : List UInt8} (h : AllD l) (hn : l ≠ []) (dot big : Bool) (e : Int) : HeadD (sciL dot big l e) := by
  refine HeadD.app (HeadD.pt (HeadD.of (h.take 1) ?_) dot _) _
  cases l with
  | nil => exact absurd rfl hn
  | cons c t => simp
theorem around_head {l : List UInt8} (h : AllD l) (dot : Bool) (p : Int) : HeadD (aroundL dot l p) := by
  unfold aroundL
  split
  · exact headD48.pt dot _
  · refine HeadD.pt (HeadD.of (AllD.take (AllD.append h (zsL_all _)) _) ?_) dot _
    have hf := fillL_len l p
    intro e
    have : ((fillL l p).take p.toNat).length = 0 := congrArg List.length e
    rw [List.length_take] at this
    omega
theorem dch_dig {n : Nat} (h : n < 10) : 48 ≤ (dch n).toNat ∧ (dch n).toNat ≤ 57 := by
  unfold dch
  rw [if_pos h, UInt8.toNat_ofNat']
  omega
theorem bF_all : ∀ k n, AllD (bF 10 k n)
  | 0, n => fun c hc => by
    rw [bF, List.mem_singleton] at hc
    rw [hc]
    exact dch_dig (Nat.mod_lt _ (by decide))
  | k + 1, n => by
    have hd : AllD [dch (n % 10)] := fun c hc => by
      rw [List.mem_singleton] at hc
      rw [hc]
      exact dch_dig (Nat.mod_lt _ (by decide))
    unfold bF
    split
    · exact hd
    · exact (bF_all k _).append hd
theorem rest_head (wide : Bool) {p : Nat} (hp : p < ii wide) {m : Nat} (hm : m < 18446744073709551616) {e : Int} (h : -1200 ≤ e ∧ e ≤ 1200) {prec : Int} (hq : -1 ≤ prec ∧ prec ≤ 1000) (v : Int) (sharp : Bool) : HeadD (restL wide p m e prec v sharp) := by
  have hn := exD_near hm h
  have hs := six_ok hq
  have gen : ∀ (d : List UInt8 × Int) (dot big : Bool) (keep top : Int), AllD d.1 → HeadD (genL dot big d keep top) := by
    intro d dot big keep top hd
    unfold genL
    dsimp only
    have hl : AllD (if d.1 = [] then [48] else d.1) ∧ (if d.1 = [] then ([48] : List UInt8) else d.1) ≠ [] := by
      split
      · exact ⟨by unfold AllD; decide, by simp⟩
      · rename_i c; exact ⟨hd, c⟩
    generalize (if d.1 = [] then ([48] : List UInt8) else d.1) = l at *
    have hm : AllD (if dot = true then fillL l keep else l) ∧ (if dot = true then fillL l keep else l) ≠ [] := by
      split
      · refine ⟨hl.1.append (zsL_all _), fun e => hl.2 ?_⟩
        unfold fillL at e
        exact (List.append_eq_nil_iff.1 e).1
      · exact hl
    split
    · exact sci_head hm.1 hm.2 dot big _
    · exact around_head hm.1 dot _
  unfold restL
  repeat' split
  · exact sci_head ((round_form hn.form _).1.append (zsL_all _)) (fill_ne (by omega)) _ _ _
  · unfold fixedL
    repeat' split
    · exact headD48.pt _ _
    · exact headD48.pt _ _
    · exact around_head ((round_form hn.form _).1.append (zsL_all _)) _ _
  · unfold genOf
    split
    · exact gen _ _ _ _ _ (shortL_ok wide hp).1.1
    · exact gen _ _ _ _ _ (round_form hn.form _).1
  · exact HeadD.app (HeadD.of (bF_all 63 m) (bF_ne 10 63 m)) _
  · have he : ∀ (dot up : Bool) (lead ds : List UInt8) (x : Int), HeadD (hexEnd dot up lead ds x) := by
      intro dot up lead ds x
      unfold hexEnd
      split
      · exact ⟨48, _, rfl, by decide, by decide⟩
      · exact ⟨48, _, rfl, by decide, by decide⟩
    unfold hexL
    split <;> (unfold hexTail; repeat' split) <;> first | exact he _ _ _ _ _ | (unfold hexMid; exact he _ _ _ _ _)
theorem end_none (sign rest : List UInt8) (minus zero : Bool) {wid : Int} (h : wid ≤ 0) : endL sign rest minus zero wid = sign ++ rest := by
  have h1 : (max 0 (min wid 1000) - (sign.length : Int) - (rest.length : Int)).toNat = 0 := by omega
  have h2 : ∀ l : List UInt8, padL l minus false wid = l := by
    intro l
    unfold padL
    rw [show (max 0 (min wid 1000) - (l.length : Int)).toNat = 0 by omega]
    cases minus <;> simp
  unfold endL
  rw [h1, h2]
  split <;> simp
end Go.Proofs.YtecpgdfnamkfdaaGreatDoor.Pure
end
section
namespace Go.Proofs.YtecpgdfnamkfdaaGreatDoor.Fn
open Go.RowKit Go.Proofs.YtecpgdfnamkfdaaGreatDoorW.PrintWords Go.Proofs.YtecpgdfnamkfdaaGreatDoorW.PrintLast Go.Proofs.YtecpgdfnamkfdaaGreatDoorW.PrintMore
attribute [local go_sem] fnW_0 fnW_1 fnW_2 fnW_3 fnW_4 fnW_5 fnW_guard fnW_eql max2_int min2_int max_two min_two
set_option linter.unusedVariables false
set_option linter.unusedSimpArgs false
theorem row_FnPlatenlaw06FloatsWide {P : Program} {ops : Array Oper} {rest : List Oper} {o : Oper} {a : Act} {Q : Exit → Act → World → Prop} {W : World} (hgd : o.guard = none) {t : TypeId} {x y : Operand} (ho : o.op = .store t x y) (hN : o.dst = none) {g : Nat} {v0 v1 v2 v3 v4 v5 v6 v7 : Value} (hx : a.eval x = .pointer (some ⟨g, 0, none⟩)) (hy : a.eval y = .agg #[v0, v1, v2, v3, v4, v5, v6, v7]) {old : Array Value} (hk : Aside0 (W.heap[g]? = some (.cells old t (0, 0)))) (hi : (P.info? t).map (·.size) = some 8) (hold : old.size = 8) (h1 : (v0.oneCell' && v1.oneCell' && v2.oneCell' && v3.oneCell' && v4.oneCell' && v5.oneCell' && v6.oneCell' && v7.oneCell') = true) {b : Nat} {w0 : World} (hb : Aside0 (Below b w0 W)) (hg : Aside0 (b ≤ g))
    (h : ∀ w1, Aside0 (w1.heap[g]? = some (.cells #[v0, v1, v2, v3, v4, v5, v6, v7] t (0, 0))) → (∀ g', g' ≠ g → w1.heap[g']? = W.heap[g']?) → Aside0 (Below b w0 w1) → wpList P ops Q rest a w1) : wpList P ops Q (o :: rest) a W := by
  simp only [Bool.and_eq_true] at h1
  refine wpList_store_row hgd t x y ho g _ hx hy t old hk.out hi hold (by simp [h1]) ?_
  rw [hN]
  refine h _ ⟨setRow_heap _ _ _ _ _ _ hk.out⟩ (fun g' hne => ?_) ⟨below_setRow hb.out hg.out _⟩
  simp only [World.setRow]
  rw [Array.getElem?_modify, if_neg (fun e => hne e.symm)]
mutual
def platenlaw06_FloatsWide.j0 : Nat → Int → Int → ByteArray → Bool → ByteArray → Bool → Bool → Bool → Bool → Bool → Bool → Bool → Int → Int → Int → Option (Bool)
 | 0, _, _, _, _, _, _, _, _, _, _, _, _, _, _, _ => none
 | k + 1, x0, x7, x8, x9, x11, x12, x42, x911000, x911001, x911002, x911003, x911004, x911005, x911006, x911007 => if x42 = true then (if (x9 == x12) = true then (if x8.toList = ([] : List UInt8) then (if x11.toList = ([] : List UInt8) then ((platenlaw06_lives.f k).bind fun t917 => (some t917)) else (some false)) else (some false)) else (some false)) else (if (x8.size : Int) = (mx (x11.size : Int) (mn x911005 1000)) then ((short_Parts.f x0 x7).bind fun bt918 => (if x911001 = true then ((buf_Fill.f 32 (wrap64 ((x8.size : Int) - (x11.size : Int)))).bind fun t922 => (if x11.size + t922.size ≤ 9223372036854775807 then (if x8.toList = (x11 ++ t922).toList then ((platenlaw06_lives.f k).bind fun t923 => (some t923)) else (some false)) else (none))) else (if x911004 = true then (platenlaw06_FloatsWide.j1 k x8 x11 (wrap64 ((x8.size : Int) - (x11.size : Int))) (bt918.2.2.2 != 0)) else (platenlaw06_FloatsWide.j1 k x8 x11 (wrap64 ((x8.size : Int) - (x11.size : Int))) true)))) else (some false))
def platenlaw06_FloatsWide.j1 : Nat → ByteArray → ByteArray → Int → Bool → Option (Bool)
 | 0, _, _, _, _ => none
 | k + 1, x8, x11, x13, x91 => if x91 = true then ((buf_Fill.f 32 x13).bind fun t924 => (if t924.size + x11.size ≤ 9223372036854775807 then (if x8.toList = (t924 ++ x11).toList then ((platenlaw06_lives.f k).bind fun t925 => (some t925)) else (some false)) else (none))) else (if x11.toList = ([] : List UInt8) then (some false) else (if 0 < (x11.size : Int) then (if (bt x11 0) = 45 then (platenlaw06_FloatsWide.j2 k x8 x11 x13 0 true) else (if (bt x11 0) = 43 then (platenlaw06_FloatsWide.j2 k x8 x11 x13 0 true) else (platenlaw06_FloatsWide.j2 k x8 x11 x13 0 ((bt x11 0) == 32)))) else (none)))
def platenlaw06_FloatsWide.j2 : Nat → ByteArray → ByteArray → Int → Int → Bool → Option (Bool)
 | 0, _, _, _, _, _ => none
 | k + 1, x8, x11, x13, x18, x122 => if x122 = true then (if 0 ≤ 1 then (if 1 ≤ (x11.size : Int) then ((buf_Fill.f 48 x13).bind fun t926 => (if (x11.extract 0 1).size + t926.size ≤ 9223372036854775807 then (if ((x11.extract 0 1) ++ t926).size + (x11.extract 1 x11.size).size ≤ 9223372036854775807 then (if x8.toList = (((x11.extract 0 1) ++ t926) ++ (x11.extract 1 x11.size)).toList then ((platenlaw06_lives.f k).bind fun t927 => (some t927)) else (some false)) else (none)) else (none))) else (none)) else (none)) else (if 0 ≤ x18 then (if x18 ≤ (x11.size : Int) then ((buf_Fill.f 48 x13).bind fun t928 => (if (x11.extract 0 (x18 : Int).toNat).size + t928.size ≤ 9223372036854775807 then (if ((x11.extract 0 (x18 : Int).toNat) ++ t928).size + (x11.extract (x18 : Int).toNat x11.size).size ≤ 9223372036854775807 then (if x8.toList = (((x11.extract 0 (x18 : Int).toNat) ++ t928) ++ (x11.extract (x18 : Int).toNat x11.size)).toList then ((platenlaw06_lives.f k).bind fun t929 => (some t929)) else (some false)) else (none)) else (none))) else (none)) else (none))
end
def platenlaw06_FloatsWide.f (k : Nat) (a0 : Int) (a1 : Bool) (a2_0 : Bool) (a2_1 : Bool) (a2_2 : Bool) (a2_3 : Bool) (a2_4 : Bool) (a2_5 : Int) (a2_6 : Int) (a2_7 : Int) : Option (Bool) := (platenlaw06_sized.f a1).bind fun t911 => ((floats_Float.f k a0 t911 a2_0 a2_1 a2_2 a2_3 a2_4 a2_5 a2_6 a2_7).bind fun bt912 => ((floats_Float.f k a0 t911 a2_0 a2_1 a2_2 a2_3 a2_4 (-1) a2_6 a2_7).bind fun bt915 => (if bt912.2 = true then (platenlaw06_FloatsWide.j0 k a0 t911 bt912.1 bt912.2 bt915.1 bt915.2 (!bt915.2) a2_0 a2_1 a2_2 a2_3 a2_4 a2_5 a2_6 a2_7) else (platenlaw06_FloatsWide.j0 k a0 t911 bt912.1 bt912.2 bt915.1 bt915.2 true a2_0 a2_1 a2_2 a2_3 a2_4 a2_5 a2_6 a2_7))))
def platenlaw06_FloatsWide.T21 : Bool × List (List Nat × List Nat) := (true, [([], []), ([], []), ([], []), ([1, 2], [1, 2]), ([], []), ([4], [4]), ([3, 5], [3, 5]), ([], []), ([], []), ([7, 8], [7, 8]), ([6, 9], [6, 9]), ([0, 10], [0, 10]), ([11, 5], [11]), ([12, 12], [12]), ([12, 13], [12, 13]), ([14, 13, 0, 1, 2, 3, 4, 5, 6, 7, 8, 9, 10, 11, 12, 13, 14], [14])])
def platenlaw06_FloatsWide.B21 : List Nat := [0, 0, 0, 6, 0, 16, 62, 0, 0, 384, 1022, 2047, 4095, 8191, 16383, 32767]
theorem platenlaw06_FloatsWide.tab21 : rtab .any (opsOf Tryz.f9 21) = platenlaw06_FloatsWide.T21 := by kernel_rfl
theorem platenlaw06_FloatsWide.bits21 : waitsOk platenlaw06_FloatsWide.T21.2 platenlaw06_FloatsWide.B21 = true := by kernel_rfl
set_option maxHeartbeats 8000000 in
set_option maxRecDepth 100000 in
theorem platenlaw06_FloatsWide.calls (k : Nat) (a0 : Int) (a1 : Bool) (a2_0 : Bool) (a2_1 : Bool) (a2_2 : Bool) (a2_3 : Bool) (a2_4 : Bool) (a2_5 : Int) (a2_6 : Int) (a2_7 : Int) (r : Bool) (w : World) (h : platenlaw06_FloatsWide.f k a0 a1 a2_0 a2_1 a2_2 a2_3 a2_4 a2_5 a2_6 a2_7 = some r) :
  Calls Tryz.prog 9 #[.int .u64 a0, .bool a1, .agg #[.bool a2_0, .bool a2_1, .bool a2_2, .bool a2_3, .bool a2_4, .int .i64 a2_5, .int .i64 a2_6, .int .i32 a2_7]] w fun e w' => e = .returned (.bool r) ∧ Below w.heap.size w w' := by
 have hu26 := Tryz.underlying26
 have HB := Aside0.mk (Below.refl w.heap.size w)
 have H : ((platenlaw06_sized.f a1).bind fun t911 => ((floats_Float.f k a0 t911 a2_0 a2_1 a2_2 a2_3 a2_4 a2_5 a2_6 a2_7).bind fun bt912 => ((floats_Float.f k a0 t911 a2_0 a2_1 a2_2 a2_3 a2_4 (-1) a2_6 a2_7).bind fun bt915 => (if bt912.2 = true then (platenlaw06_FloatsWide.j0 k a0 t911 bt912.1 bt912.2 bt915.1 bt915.2 (!bt915.2) a2_0 a2_1 a2_2 a2_3 a2_4 a2_5 a2_6 a2_7) else (platenlaw06_FloatsWide.j0 k a0 t911 bt912.1 bt912.2 bt915.1 bt915.2 true a2_0 a2_1 a2_2 a2_3 a2_4 a2_5 a2_6 a2_7))))) = some r := h
 clear h
 replace H := bs H
 obtain ⟨t911, A4, H⟩ := H
 replace H := bs H
 obtain ⟨⟨t912, t913⟩, A5, H⟩ := H
 dsimp only at H
 replace H := bs H
 obtain ⟨⟨t915, t916⟩, A6, H⟩ := H
 dsimp only at H
 have HC7 := Aside0.mk H
 clear H
 go_enter Tryz.func9, Tryz.ntmps9
 go_upto_region 6 with (first | ((with_reducible refine gate_dst (N := 5) rfl ?_); refine box_event rfl (N := 5) rfl (cs := #[.bool a2_0, .bool a2_1, .bool a2_2, .bool a2_3, .bool a2_4, .int .i64 a2_5, .int .i64 a2_6, .int .i32 a2_7]) (t := 26) gz ?_; intro gb910 hg w8 hbox hb; have GE910 := gN bz hg; have BK910 := Aside0.mk hbox; replace HB := bN bz hb; clear hb hbox hg) | ((with_reducible refine gate_callee (f := 21) rfl ?_); refine goesL_ (some 20) rfl rfl Tryz.func21 (by kernel_rfl) rfl #[.bool a1] rfl lz ?_; (with_reducible refine (platenlaw06_sized.calls a1 t911 _ A4.out).mono ?_); rintro e w' ⟨rfl, ⟨nd, rfl⟩⟩; refine ⟨_, rfl, ?_⟩; (try (rw [drewN_self w8]; generalize hq_ : World.drewN w8 _ = w8; have n0_ : Aside0 (w8.heap[gb910]? = some (.cells #[.bool a2_0, .bool a2_1, .bool a2_2, .bool a2_3, .bool a2_4, .int .i64 a2_5, .int .i64 a2_6, .int .i32 a2_7] 26 (0, 0))) := ⟨by rw [← hq_]; exact bk⟩; have n1_ : Aside0 (Below w.heap.size w w8) := ⟨by rw [← hq_]; exact bz⟩; clear BK910 HB hq_; have BK910 := n0_; have HB := n1_; clear n0_ n1_)); obtain ⟨hcz9_0, hcz9_1, hcz9_2, hcz9_3, hcz9_4, hcz9_5, hcz9_6, hcz9_7, hfz9_0, hfz9_1, hfz9_2, hfz9_3, hfz9_4, hfz9_5, hfz9_6, hfz9_7⟩ := cz8 (W := w8) BK910) | ((with_reducible refine gate_callee (f := 25) rfl ?_); refine goesL_ (some 25) rfl rfl Tryz.func25 (by kernel_rfl) rfl #[.int .u64 a0, .int .i64 t911, .agg #[.bool a2_0, .bool a2_1, .bool a2_2, .bool a2_3, .bool a2_4, .int .i64 a2_5, .int .i64 a2_6, .int .i32 a2_7]] rfl lz ?_; (with_reducible refine (floats_Float.calls k a0 t911 a2_0 a2_1 a2_2 a2_3 a2_4 a2_5 a2_6 a2_7 t912 t913 _ A5.out).mono ?_); rintro e w10 ⟨rfl, hb⟩; refine ⟨_, rfl, ?_⟩; replace BK910 := kN (g := gb910) (cs := #[.bool a2_0, .bool a2_1, .bool a2_2, .bool a2_3, .bool a2_4, .int .i64 a2_5, .int .i64 a2_6, .int .i32 a2_7]) hb bk; replace HB := bN bz hb; (try clear hb); (try clear hb2); (try clear hk); (try clear hi); obtain ⟨hcz11_0, hcz11_1, hcz11_2, hcz11_3, hcz11_4, hcz11_5, hcz11_6, hcz11_7, hfz11_0, hfz11_1, hfz11_2, hfz11_3, hfz11_4, hfz11_5, hfz11_6, hfz11_7⟩ := cz8 (W := w10) BK910) | ((with_reducible refine gate_dst (N := 10) rfl ?_); refine box_event rfl (N := 10) rfl (cs := #[.bool false, .bool false, .bool false, .bool false, .bool false, .int .i64 0, .int .i64 0, .int .i32 0]) (t := 26) gz ?_; intro gb914 hg w12 hbox hb; have GE914 := gN bz hg; have NB910_914 := lN (g := gb910) (cs := #[.bool a2_0, .bool a2_1, .bool a2_2, .bool a2_3, .bool a2_4, .int .i64 a2_5, .int .i64 a2_6, .int .i32 a2_7]) hg bk; have NB914_910 := rN (g := gb910) (cs := #[.bool a2_0, .bool a2_1, .bool a2_2, .bool a2_3, .bool a2_4, .int .i64 a2_5, .int .i64 a2_6, .int .i32 a2_7]) hg bk; replace BK910 := kN (g := gb910) (cs := #[.bool a2_0, .bool a2_1, .bool a2_2, .bool a2_3, .bool a2_4, .int .i64 a2_5, .int .i64 a2_6, .int .i32 a2_7]) hb bk; have BK914 := Aside0.mk hbox; replace HB := bN bz hb; clear hb hbox hg; have hnb13 := NB914_910.out; have hnc13 := NB910_914.out; obtain ⟨hcz14_0, hcz14_1, hcz14_2, hcz14_3, hcz14_4, hcz14_5, hcz14_6, hcz14_7, hfz14_0, hfz14_1, hfz14_2, hfz14_3, hfz14_4, hfz14_5, hfz14_6, hfz14_7⟩ := cz8 (W := w12) BK914) | ((with_reducible refine gate_store (t := 26) (p := 10) rfl ?_); refine row_FnPlatenlaw06FloatsWide rfl rfl rfl rfl rfl BK914 (by kernel_rfl) rfl rfl HB GE914 ?_; intro w9501 hk_ ho_ hb_; replace BK910 := Aside0.mk ((ho_ gb910 NB910_914.out).trans BK910.out); replace BK914 := hk_; replace HB := hb_; clear hk_ ho_ hb_; obtain ⟨hcz9501_0, hcz9501_1, hcz9501_2, hcz9501_3, hcz9501_4, hcz9501_5, hcz9501_6, hcz9501_7, hfz9501_0, hfz9501_1, hfz9501_2, hfz9501_3, hfz9501_4, hfz9501_5, hfz9501_6, hfz9501_7⟩ := cz8 (W := w9501) BK914) | ((with_reducible refine gate_callee (f := 25) rfl ?_); refine goesL_ (some 34) rfl rfl Tryz.func25 (by kernel_rfl) rfl #[.int .u64 a0, .int .i64 t911, .agg #[.bool a2_0, .bool a2_1, .bool a2_2, .bool a2_3, .bool a2_4, .int .i64 (-1), .int .i64 a2_6, .int .i32 a2_7]] rfl lz ?_; (with_reducible refine (floats_Float.calls k a0 t911 a2_0 a2_1 a2_2 a2_3 a2_4 (-1) a2_6 a2_7 t915 t916 _ A6.out).mono ?_); rintro e w15 ⟨rfl, hb⟩; refine ⟨_, rfl, ?_⟩; replace BK910 := kN (g := gb910) (cs := #[.bool a2_0, .bool a2_1, .bool a2_2, .bool a2_3, .bool a2_4, .int .i64 a2_5, .int .i64 a2_6, .int .i32 a2_7]) hb bk; replace BK914 := kN (g := gb914) (cs := #[.bool a2_0, .bool a2_1, .bool a2_2, .bool a2_3, .bool a2_4, .int .i64 (-1), .int .i64 a2_6, .int .i32 a2_7]) hb bk; replace HB := bN bz hb; (try clear hb); (try clear hb2); (try clear hk); (try clear hi)))
 (try simp only [Act.put, List.setIfInBounds_toArray, List.set_cons_zero, List.set_cons_succ])
 go_cut [42] (fun v42 wc => ∃ (kq : Nat) (x42_6 : Bool), v42 = .bool x42_6 ∧ Aside0 (platenlaw06_FloatsWide.j0 kq a0 t911 t912 t913 t915 t916 x42_6 a2_0 a2_1 a2_2 a2_3 a2_4 a2_5 a2_6 a2_7 = some r) ∧ Aside0 (kq ≤ k) ∧ Aside0 (wc.heap[gb910]? = some (.cells #[.bool a2_0, .bool a2_1, .bool a2_2, .bool a2_3, .bool a2_4, .int .i64 a2_5, .int .i64 a2_6, .int .i32 a2_7] 26 (0, 0))) ∧ Aside0 (wc.heap[gb914]? = some (.cells #[.bool a2_0, .bool a2_1, .bool a2_2, .bool a2_3, .bool a2_4, .int .i64 (-1), .int .i64 a2_6, .int .i32 a2_7] 26 (0, 0))) ∧ Aside0 (Below w.heap.size w wc))
 case first =>
  have H := HC7.out
  clear HC7
  by_cases c16 : t913 = true
  ·subst c16
   replace H := hT H
   have H' := Aside0.mk H
   clear H
   go_wp2
   go_meet
   case rel => exact ⟨_, (!t916), rz, H', ⟨by first | omega | exact Nat.le_refl _⟩, ⟨bk⟩, ⟨bk⟩, ⟨bz⟩⟩
  ·replace c16 := Bool.eq_false_iff.mpr c16
   subst c16
   replace H := hF H
   have H' := Aside0.mk H
   clear H
   go_wp2
   go_meet
   case rel => exact ⟨_, (true), rz, H', ⟨by first | omega | exact Nat.le_refl _⟩, ⟨bk⟩, ⟨bk⟩, ⟨bz⟩⟩
 case rest =>
  clear HC7
  try clear c16
  try clear hcz11_0 hcz11_1 hcz11_2 hcz11_3 hcz11_4 hcz11_5 hcz11_6 hcz11_7 hfz11_0 hfz11_1 hfz11_2 hfz11_3 hfz11_4 hfz11_5 hfz11_6 hfz11_7
  try clear hcz14_0 hcz14_1 hcz14_2 hcz14_3 hcz14_4 hcz14_5 hcz14_6 hcz14_7 hfz14_0 hfz14_1 hfz14_2 hfz14_3 hfz14_4 hfz14_5 hfz14_6 hfz14_7
  try clear hcz9_0 hcz9_1 hcz9_2 hcz9_3 hcz9_4 hcz9_5 hcz9_6 hcz9_7 hfz9_0 hfz9_1 hfz9_2 hfz9_3 hfz9_4 hfz9_5 hfz9_6 hfz9_7
  obtain ⟨kq, x42_6, rfl, HA, HJ6, BK910, BK914, HB⟩ := hcut
  cases kq with
  | zero => exact absurd HA.out (by simp [platenlaw06_FloatsWide.j0])
  | succ kj6 =>
   have H := HA.out
   clear HA
   simp only [platenlaw06_FloatsWide.j0] at H
   by_cases c17 : x42_6 = true
   ·subst c17
    replace H := hT H
    by_cases c18 : (t913 == t916) = true
    ·replace H := hE H c18
     have c18b0 : (t913 == t916) = true := c18
     (try (have c18b1 : decide (t913 = t916) = true := by simpa using c18))
     (try (have c18b2 : (t913 == t916) = true := by simpa using c18))
     clear c18
     by_cases c19 : t912.toList = ([] : List UInt8)
     ·replace H := hE H c19
      have c19b0 : (t912.toList == ([] : List UInt8)) = true := beq_iff_eq.mpr c19
      have c19b1 : (t912.toList != ([] : List UInt8)) = false := bne_eq_false_iff_eq.mpr c19
      have c19b7 : t912.toList.isEmpty = true := by simpa using c19b0
      clear c19
      by_cases c20 : t915.toList = ([] : List UInt8)
      ·replace H := hE H c20
       have c20b0 : (t915.toList == ([] : List UInt8)) = true := beq_iff_eq.mpr c20
       have c20b1 : (t915.toList != ([] : List UInt8)) = false := bne_eq_false_iff_eq.mpr c20
       have c20b7 : t915.toList.isEmpty = true := by simpa using c20b0
       clear c20
       replace H := bs H
       obtain ⟨t917, A21, H⟩ := H
       obtain rfl := Option.some.inj H
       go_wp2_with (first | (go_at_call 23; (with_reducible refine (platenlaw06_lives.calls kj6  t917 _ A21.out).mono ?_); rintro e w22 ⟨rfl, hb⟩; replace BK910 := kN (g := gb910) (cs := #[.bool a2_0, .bool a2_1, .bool a2_2, .bool a2_3, .bool a2_4, .int .i64 a2_5, .int .i64 a2_6, .int .i32 a2_7]) hb bk; replace BK914 := kN (g := gb914) (cs := #[.bool a2_0, .bool a2_1, .bool a2_2, .bool a2_3, .bool a2_4, .int .i64 (-1), .int .i64 a2_6, .int .i32 a2_7]) hb bk; replace HB := bN bz hb; (try clear hb); (try clear hb2); (try clear hk); (try clear hi)))
       go_ret
       exact ⟨ez, bz⟩
      ·replace H := hN H c20
       have c20b0 : (t915.toList == ([] : List UInt8)) = false := beq_eq_false_iff_ne.mpr c20
       have c20b1 : (t915.toList != ([] : List UInt8)) = true := bne_iff_ne.mpr c20
       have c20b7 : t915.toList.isEmpty = false := by simpa using c20b0
       obtain rfl := Option.some.inj H
       go_wp2
       go_ret
       exact ⟨ez, bz⟩
     ·replace H := hN H c19
      have c19b0 : (t912.toList == ([] : List UInt8)) = false := beq_eq_false_iff_ne.mpr c19
      have c19b1 : (t912.toList != ([] : List UInt8)) = true := bne_iff_ne.mpr c19
      have c19b7 : t912.toList.isEmpty = false := by simpa using c19b0
      obtain rfl := Option.some.inj H
      go_wp2
      go_ret
      exact ⟨ez, bz⟩
    ·replace H := hN H c18
     have c18b0 : (t913 == t916) = false := by simpa using c18
     (try (have c18b1 : decide (t913 = t916) = false := by simpa using c18))
     (try (have c18b2 : (t913 == t916) = false := by simpa using c18))
     (try (have c18b3 : ¬ (t913 = t916) := by simpa using c18))
     clear c18
     obtain rfl := Option.some.inj H
     go_wp2
     go_ret
     exact ⟨ez, bz⟩
   ·replace c17 := Bool.eq_false_iff.mpr c17
    subst c17
    replace H := hF H
    obtain ⟨ji23, hji23⟩ : ∃ j_ : Int, (mn a2_5 1000) = j_ := ⟨_, rfl⟩
    (first | rw [hji23] at H | simp only [hji23] at H)
    have hji23_ : (if 1000 < a2_5 then 1000 else a2_5) = ji23 := hji23
    obtain ⟨ji24, hji24⟩ : ∃ j_ : Int, (mx (t915.size : Int) (ji23)) = j_ := ⟨_, rfl⟩
    (first | rw [hji24] at H | simp only [hji24] at H)
    have hji24_ : (if (t915.size : Int) < (ji23) then (ji23) else (t915.size : Int)) = ji24 := hji24
    by_cases c25 : (t912.size : Int) = (ji24)
    ·replace H := hE H c25
     obtain ⟨c25b0, c25b1⟩ := eT c25
     clear c25
     replace H := bs H
     obtain ⟨⟨t918, t919, t920, t921⟩, A26, H⟩ := H
     dsimp only at H
     have hnb27 := NB910_914.out
     have hnc27 := NB914_910.out
     obtain ⟨hcz28_0, hcz28_1, hcz28_2, hcz28_3, hcz28_4, hcz28_5, hcz28_6, hcz28_7, hfz28_0, hfz28_1, hfz28_2, hfz28_3, hfz28_4, hfz28_5, hfz28_6, hfz28_7⟩ := cz8 (W := wc) BK910
     go_upto_if 79 with (first | ((with_reducible refine gate_callee (f := 24) rfl ?_); refine goesL_ (some 74) rfl rfl Tryz.func24 (by kernel_rfl) rfl #[.int .u64 a0, .int .i64 t911] rfl lz ?_; (with_reducible refine (short_Parts.calls a0 t911 t918 t919 t920 t921 _ A26.out).mono ?_); rintro e w29 ⟨rfl, hb⟩; refine ⟨_, rfl, ?_⟩; replace BK910 := kN (g := gb910) (cs := #[.bool a2_0, .bool a2_1, .bool a2_2, .bool a2_3, .bool a2_4, .int .i64 a2_5, .int .i64 a2_6, .int .i32 a2_7]) hb bk; replace BK914 := kN (g := gb914) (cs := #[.bool a2_0, .bool a2_1, .bool a2_2, .bool a2_3, .bool a2_4, .int .i64 (-1), .int .i64 a2_6, .int .i32 a2_7]) hb bk; replace HB := bN bz hb; (try clear hb); (try clear hb2); (try clear hk); (try clear hi); obtain ⟨hcz30_0, hcz30_1, hcz30_2, hcz30_3, hcz30_4, hcz30_5, hcz30_6, hcz30_7, hfz30_0, hfz30_1, hfz30_2, hfz30_3, hfz30_4, hfz30_5, hfz30_6, hfz30_7⟩ := cz8 (W := w29) BK910))
     (try simp only [Act.put, List.setIfInBounds_toArray, List.set_cons_zero, List.set_cons_succ])
     by_cases c31 : a2_1 = true
     ·subst c31
      replace H := hT H
      replace H := bs H
      obtain ⟨t922, A32, H⟩ := H
      by_cases c33 : t915.size + t922.size ≤ 9223372036854775807
      ·replace H := hE H c33
       have c33b0 := eq_true c33
       have c33b1 : decide (t915.size + t922.size ≤ 9223372036854775807) = true := decide_eq_true c33
       try have c33b2 : (9223372036854775807 < t915.size + t922.size) = False := eq_false (Nat.not_lt.2 c33)
       by_cases c34 : t912.toList = (t915 ++ t922).toList
       ·replace H := hE H c34
        have c34b0 : (t912.toList == (t915 ++ t922).toList) = true := beq_iff_eq.mpr c34
        have c34b1 : (t912.toList != (t915 ++ t922).toList) = false := bne_eq_false_iff_eq.mpr c34
        clear c34
        try first | rw [c34b0] | rw [c34b1]
        replace H := bs H
        obtain ⟨t923, A35, H⟩ := H
        obtain rfl := Option.some.inj H
        go_wp2_with (first | ((with_reducible refine gate_callee (f := 27) rfl ?_); refine goesL_ (some 85) rfl rfl Tryz.func27 (by kernel_rfl) rfl #[.int .u8 32, .int .i64 (wrap64 ((t912.size : Int) - (t915.size : Int)))] rfl lz ?_; (with_reducible refine (buf_Fill.calls 32 (wrap64 ((t912.size : Int) - (t915.size : Int))) t922 _ A32.out).mono ?_); rintro e w36 ⟨rfl, hb⟩; refine ⟨_, rfl, ?_⟩; replace BK910 := kN (g := gb910) (cs := #[.bool a2_0, .bool true, .bool a2_2, .bool a2_3, .bool a2_4, .int .i64 a2_5, .int .i64 a2_6, .int .i32 a2_7]) hb bk; replace BK914 := kN (g := gb914) (cs := #[.bool a2_0, .bool true, .bool a2_2, .bool a2_3, .bool a2_4, .int .i64 (-1), .int .i64 a2_6, .int .i32 a2_7]) hb bk; replace HB := bN bz hb; (try clear hb); (try clear hb2); (try clear hk); (try clear hi)) | (go_at_call 23; (with_reducible refine (platenlaw06_lives.calls kj6  t923 _ A35.out).mono ?_); rintro e w37 ⟨rfl, hb⟩; replace BK910 := kN (g := gb910) (cs := #[.bool a2_0, .bool true, .bool a2_2, .bool a2_3, .bool a2_4, .int .i64 a2_5, .int .i64 a2_6, .int .i32 a2_7]) hb bk; replace BK914 := kN (g := gb914) (cs := #[.bool a2_0, .bool true, .bool a2_2, .bool a2_3, .bool a2_4, .int .i64 (-1), .int .i64 a2_6, .int .i32 a2_7]) hb bk; replace HB := bN bz hb; (try clear hb); (try clear hb2); (try clear hk); (try clear hi)))
        go_ret
        exact ⟨by first | rfl | (simp [errW_none, errW_some] <;> rfl) | (simp only [← hji23, ← hji24]; first | rfl | (simp [errW_none, errW_some] <;> rfl)) | (simp [*, errW_none, errW_some] <;> rfl), bz⟩
       ·replace H := hN H c34
        have c34b0 : (t912.toList == (t915 ++ t922).toList) = false := beq_eq_false_iff_ne.mpr c34
        have c34b1 : (t912.toList != (t915 ++ t922).toList) = true := bne_iff_ne.mpr c34
        try first | rw [c34b0] | rw [c34b1]
        obtain rfl := Option.some.inj H
        go_wp2_with (first | ((with_reducible refine gate_callee (f := 27) rfl ?_); refine goesL_ (some 85) rfl rfl Tryz.func27 (by kernel_rfl) rfl #[.int .u8 32, .int .i64 (wrap64 ((t912.size : Int) - (t915.size : Int)))] rfl lz ?_; (with_reducible refine (buf_Fill.calls 32 (wrap64 ((t912.size : Int) - (t915.size : Int))) t922 _ A32.out).mono ?_); rintro e w38 ⟨rfl, hb⟩; refine ⟨_, rfl, ?_⟩; replace BK910 := kN (g := gb910) (cs := #[.bool a2_0, .bool true, .bool a2_2, .bool a2_3, .bool a2_4, .int .i64 a2_5, .int .i64 a2_6, .int .i32 a2_7]) hb bk; replace BK914 := kN (g := gb914) (cs := #[.bool a2_0, .bool true, .bool a2_2, .bool a2_3, .bool a2_4, .int .i64 (-1), .int .i64 a2_6, .int .i32 a2_7]) hb bk; replace HB := bN bz hb; (try clear hb); (try clear hb2); (try clear hk); (try clear hi)))
        go_ret
        exact ⟨by first | rfl | (simp [errW_none, errW_some] <;> rfl) | (simp only [← hji23, ← hji24]; first | rfl | (simp [errW_none, errW_some] <;> rfl)) | (simp [*, errW_none, errW_some] <;> rfl), bz⟩
      ·replace H := hN H c33
       exact absurd H (by simp)
     ·replace c31 := Bool.eq_false_iff.mpr c31
      subst c31
      replace H := hF H
      have HC39 := Aside0.mk H
      clear H
      go_upto_region 14 with (fail)
      go_cut [91] (fun v91 wc => ∃ (kq : Nat) (x91_38 : Bool), v91 = .bool x91_38 ∧ Aside0 (platenlaw06_FloatsWide.j1 kq t912 t915 (wrap64 ((t912.size : Int) - (t915.size : Int))) x91_38 = some r) ∧ Aside0 (kq ≤ kj6) ∧ Aside0 (wc.heap[gb910]? = some (.cells #[.bool a2_0, .bool false, .bool a2_2, .bool a2_3, .bool a2_4, .int .i64 a2_5, .int .i64 a2_6, .int .i32 a2_7] 26 (0, 0))) ∧ Aside0 (wc.heap[gb914]? = some (.cells #[.bool a2_0, .bool false, .bool a2_2, .bool a2_3, .bool a2_4, .int .i64 (-1), .int .i64 a2_6, .int .i32 a2_7] 26 (0, 0))) ∧ Aside0 (Below w.heap.size w wc))
      case first =>
       have H := HC39.out
       clear HC39
       by_cases c40 : a2_4 = true
       ·subst c40
        replace H := hT H
        have H' := Aside0.mk H
        clear H
        have hnb41 := NB910_914.out
        have hnc41 := NB914_910.out
        obtain ⟨hcz42_0, hcz42_1, hcz42_2, hcz42_3, hcz42_4, hcz42_5, hcz42_6, hcz42_7, hfz42_0, hfz42_1, hfz42_2, hfz42_3, hfz42_4, hfz42_5, hfz42_6, hfz42_7⟩ := cz8 (W := w29) BK910
        go_wp2
        go_meet
        case rel => exact ⟨_, ((t921 != 0)), rz, H', ⟨by have := HJ6.out; first | omega | exact Nat.le_refl _⟩, ⟨bk⟩, ⟨bk⟩, ⟨bz⟩⟩
       ·replace c40 := Bool.eq_false_iff.mpr c40
        subst c40
        replace H := hF H
        have H' := Aside0.mk H
        clear H
        have hnb43 := NB910_914.out
        have hnc43 := NB914_910.out
        obtain ⟨hcz44_0, hcz44_1, hcz44_2, hcz44_3, hcz44_4, hcz44_5, hcz44_6, hcz44_7, hfz44_0, hfz44_1, hfz44_2, hfz44_3, hfz44_4, hfz44_5, hfz44_6, hfz44_7⟩ := cz8 (W := w29) BK910
        go_wp2
        go_meet
        case rel => exact ⟨_, (true), rz, H', ⟨by have := HJ6.out; first | omega | exact Nat.le_refl _⟩, ⟨bk⟩, ⟨bk⟩, ⟨bz⟩⟩
      case rest =>
       clear HC39
       try clear c16
       try clear c17
       try clear c18
       try clear c18b0
       try clear c18b1
       try clear c18b2
       try clear c19
       try clear c19b0
       try clear c19b1
       try clear c20
       try clear c20b0
       try clear c20b1
       try clear c25
       try clear c25b0
       try clear c25b1
       try clear c31
       try clear c33
       try clear c33b0
       try clear c33b1
       try clear c33b2
       try clear c34
       try clear c34b0
       try clear c34b1
       try clear c40
       try clear hcz11_0 hcz11_1 hcz11_2 hcz11_3 hcz11_4 hcz11_5 hcz11_6 hcz11_7 hfz11_0 hfz11_1 hfz11_2 hfz11_3 hfz11_4 hfz11_5 hfz11_6 hfz11_7
       try clear hcz14_0 hcz14_1 hcz14_2 hcz14_3 hcz14_4 hcz14_5 hcz14_6 hcz14_7 hfz14_0 hfz14_1 hfz14_2 hfz14_3 hfz14_4 hfz14_5 hfz14_6 hfz14_7
       try clear hcz28_0 hcz28_1 hcz28_2 hcz28_3 hcz28_4 hcz28_5 hcz28_6 hcz28_7 hfz28_0 hfz28_1 hfz28_2 hfz28_3 hfz28_4 hfz28_5 hfz28_6 hfz28_7
       try clear hcz30_0 hcz30_1 hcz30_2 hcz30_3 hcz30_4 hcz30_5 hcz30_6 hcz30_7 hfz30_0 hfz30_1 hfz30_2 hfz30_3 hfz30_4 hfz30_5 hfz30_6 hfz30_7
       try clear hcz42_0 hcz42_1 hcz42_2 hcz42_3 hcz42_4 hcz42_5 hcz42_6 hcz42_7 hfz42_0 hfz42_1 hfz42_2 hfz42_3 hfz42_4 hfz42_5 hfz42_6 hfz42_7
       try clear hcz44_0 hcz44_1 hcz44_2 hcz44_3 hcz44_4 hcz44_5 hcz44_6 hcz44_7 hfz44_0 hfz44_1 hfz44_2 hfz44_3 hfz44_4 hfz44_5 hfz44_6 hfz44_7
       try clear hcz9_0 hcz9_1 hcz9_2 hcz9_3 hcz9_4 hcz9_5 hcz9_6 hcz9_7 hfz9_0 hfz9_1 hfz9_2 hfz9_3 hfz9_4 hfz9_5 hfz9_6 hfz9_7
       obtain ⟨kq, x91_38, rfl, HA, HJ38, BK910, BK914, HB⟩ := hcut
       cases kq with
       | zero => exact absurd HA.out (by simp [platenlaw06_FloatsWide.j1])
       | succ kj38 =>
        have H := HA.out
        clear HA
        simp only [platenlaw06_FloatsWide.j1] at H
        by_cases c45 : x91_38 = true
        ·subst c45
         replace H := hT H
         replace H := bs H
         obtain ⟨t924, A46, H⟩ := H
         by_cases c47 : t924.size + t915.size ≤ 9223372036854775807
         ·replace H := hE H c47
          have c47b0 := eq_true c47
          have c47b1 : decide (t924.size + t915.size ≤ 9223372036854775807) = true := decide_eq_true c47
          try have c47b2 : (9223372036854775807 < t924.size + t915.size) = False := eq_false (Nat.not_lt.2 c47)
          by_cases c48 : t912.toList = (t924 ++ t915).toList
          ·replace H := hE H c48
           have c48b0 : (t912.toList == (t924 ++ t915).toList) = true := beq_iff_eq.mpr c48
           have c48b1 : (t912.toList != (t924 ++ t915).toList) = false := bne_eq_false_iff_eq.mpr c48
           clear c48
           replace H := bs H
           obtain ⟨t925, A49, H⟩ := H
           obtain rfl := Option.some.inj H
           go_wp2_with (first | ((with_reducible refine gate_callee (f := 27) rfl ?_); refine goesL_ (some 101) rfl rfl Tryz.func27 (by kernel_rfl) rfl #[.int .u8 32, .int .i64 (wrap64 ((t912.size : Int) - (t915.size : Int)))] rfl lz ?_; (with_reducible refine (buf_Fill.calls 32 (wrap64 ((t912.size : Int) - (t915.size : Int))) t924 _ A46.out).mono ?_); rintro e w50 ⟨rfl, hb⟩; refine ⟨_, rfl, ?_⟩; replace BK910 := kN (g := gb910) (cs := #[.bool a2_0, .bool false, .bool a2_2, .bool a2_3, .bool a2_4, .int .i64 a2_5, .int .i64 a2_6, .int .i32 a2_7]) hb bk; replace BK914 := kN (g := gb914) (cs := #[.bool a2_0, .bool false, .bool a2_2, .bool a2_3, .bool a2_4, .int .i64 (-1), .int .i64 a2_6, .int .i32 a2_7]) hb bk; replace HB := bN bz hb; (try clear hb); (try clear hb2); (try clear hk); (try clear hi)) | (go_at_call 23; (with_reducible refine (platenlaw06_lives.calls kj38  t925 _ A49.out).mono ?_); rintro e w51 ⟨rfl, hb⟩; replace BK910 := kN (g := gb910) (cs := #[.bool a2_0, .bool false, .bool a2_2, .bool a2_3, .bool a2_4, .int .i64 a2_5, .int .i64 a2_6, .int .i32 a2_7]) hb bk; replace BK914 := kN (g := gb914) (cs := #[.bool a2_0, .bool false, .bool a2_2, .bool a2_3, .bool a2_4, .int .i64 (-1), .int .i64 a2_6, .int .i32 a2_7]) hb bk; replace HB := bN bz hb; (try clear hb); (try clear hb2); (try clear hk); (try clear hi)))
           go_ret
           exact ⟨by first | rfl | (simp [errW_none, errW_some] <;> rfl) | (simp only [← hji23, ← hji24]; first | rfl | (simp [errW_none, errW_some] <;> rfl)) | (simp [*, errW_none, errW_some] <;> rfl), bz⟩
          ·replace H := hN H c48
           have c48b0 : (t912.toList == (t924 ++ t915).toList) = false := beq_eq_false_iff_ne.mpr c48
           have c48b1 : (t912.toList != (t924 ++ t915).toList) = true := bne_iff_ne.mpr c48
           obtain rfl := Option.some.inj H
           go_wp2_with (first | ((with_reducible refine gate_callee (f := 27) rfl ?_); refine goesL_ (some 101) rfl rfl Tryz.func27 (by kernel_rfl) rfl #[.int .u8 32, .int .i64 (wrap64 ((t912.size : Int) - (t915.size : Int)))] rfl lz ?_; (with_reducible refine (buf_Fill.calls 32 (wrap64 ((t912.size : Int) - (t915.size : Int))) t924 _ A46.out).mono ?_); rintro e w52 ⟨rfl, hb⟩; refine ⟨_, rfl, ?_⟩; replace BK910 := kN (g := gb910) (cs := #[.bool a2_0, .bool false, .bool a2_2, .bool a2_3, .bool a2_4, .int .i64 a2_5, .int .i64 a2_6, .int .i32 a2_7]) hb bk; replace BK914 := kN (g := gb914) (cs := #[.bool a2_0, .bool false, .bool a2_2, .bool a2_3, .bool a2_4, .int .i64 (-1), .int .i64 a2_6, .int .i32 a2_7]) hb bk; replace HB := bN bz hb; (try clear hb); (try clear hb2); (try clear hk); (try clear hi)))
           go_ret
           exact ⟨by first | rfl | (simp [errW_none, errW_some] <;> rfl) | (simp only [← hji23, ← hji24]; first | rfl | (simp [errW_none, errW_some] <;> rfl)) | (simp [*, errW_none, errW_some] <;> rfl), bz⟩
         ·replace H := hN H c47
          exact absurd H (by simp)
        ·replace c45 := Bool.eq_false_iff.mpr c45
         subst c45
         replace H := hF H
         by_cases c53 : t915.toList = ([] : List UInt8)
         ·replace H := hE H c53
          have c53b0 : (t915.toList == ([] : List UInt8)) = true := beq_iff_eq.mpr c53
          have c53b1 : (t915.toList != ([] : List UInt8)) = false := bne_eq_false_iff_eq.mpr c53
          have c53b7 : t915.toList.isEmpty = true := by simpa using c53b0
          clear c53
          obtain rfl := Option.some.inj H
          go_wp2
          go_ret
          exact ⟨by first | rfl | (simp [errW_none, errW_some] <;> rfl) | (simp only [← hji23, ← hji24]; first | rfl | (simp [errW_none, errW_some] <;> rfl)) | (simp [*, errW_none, errW_some] <;> rfl), bz⟩
         ·replace H := hN H c53
          have c53b0 : (t915.toList == ([] : List UInt8)) = false := beq_eq_false_iff_ne.mpr c53
          have c53b1 : (t915.toList != ([] : List UInt8)) = true := bne_iff_ne.mpr c53
          have c53b7 : t915.toList.isEmpty = false := by simpa using c53b0
          have HC54 := Aside0.mk H
          clear H
          go_upto_region 19 with (fail)
          go_cut [122] (fun v122 wc => ∃ (kq : Nat) (x122_53 : Bool), v122 = .bool x122_53 ∧ Aside0 (platenlaw06_FloatsWide.j2 kq t912 t915 (wrap64 ((t912.size : Int) - (t915.size : Int))) 0 x122_53 = some r) ∧ Aside0 (kq ≤ kj38) ∧ Aside0 (wc.heap[gb910]? = some (.cells #[.bool a2_0, .bool false, .bool a2_2, .bool a2_3, .bool a2_4, .int .i64 a2_5, .int .i64 a2_6, .int .i32 a2_7] 26 (0, 0))) ∧ Aside0 (wc.heap[gb914]? = some (.cells #[.bool a2_0, .bool false, .bool a2_2, .bool a2_3, .bool a2_4, .int .i64 (-1), .int .i64 a2_6, .int .i32 a2_7] 26 (0, 0))) ∧ Aside0 (Below w.heap.size w wc))
          case first =>
           have H := HC54.out
           clear HC54
           by_cases c55 : 0 < (t915.size : Int)
           ·replace H := hE H c55
            have c55b0 := decide_eq_true c55
            have c55b1 : decide (0 < t915.size) = true := decide_eq_true (by omega)
            clear c55
            try first | rw [c55b0] | rw [c55b1]
            by_cases c57 : (bt t915 0) = 45
            ·replace H := hE H c57
             obtain ⟨c57b0, c57b1⟩ := eT c57
             clear c57
             have H' := Aside0.mk H
             clear H
             have p56 : 0 ≤ (0 : Int) := (by omega)
             have q56 : 0 < t915.size := (by have : (0 : Int) < (t915.size : Int) := of_decide_eq_true (by first | (with_reducible assumption) | assumption); omega)
             have hx56 : ∀ h : 0 < t915.size, ((t915[0]'h).toNat : Int) = bt t915 0 := bt_at t915 0
             clear p56
             have qi56 : (0 < (t915.size : Int)) = True := eq_true (of_decide_eq_true (by first | (with_reducible assumption) | assumption))
             replace q56 := eq_true q56
             go_wp2
             go_meet
             case rel => exact ⟨_, (true), rz, H', ⟨by have := HJ6.out; have := HJ38.out; first | omega | exact Nat.le_refl _⟩, ⟨bk⟩, ⟨bk⟩, ⟨bz⟩⟩
            ·replace H := hN H c57
             obtain ⟨c57b0, c57b1⟩ := eF c57
             by_cases c59 : (bt t915 0) = 43
             ·replace H := hE H c59
              obtain ⟨c59b0, c59b1⟩ := eT c59
              clear c59
              have H' := Aside0.mk H
              clear H
              have p56 : 0 ≤ (0 : Int) := (by omega)
              have q56 : 0 < t915.size := (by have : (0 : Int) < (t915.size : Int) := of_decide_eq_true (by first | (with_reducible assumption) | assumption); omega)
              have hx56 : ∀ h : 0 < t915.size, ((t915[0]'h).toNat : Int) = bt t915 0 := bt_at t915 0
              clear p56
              have qi56 : (0 < (t915.size : Int)) = True := eq_true (of_decide_eq_true (by first | (with_reducible assumption) | assumption))
              replace q56 := eq_true q56
              have p58 : 0 ≤ (0 : Int) := (by omega)
              have q58 : 0 < t915.size := (by have : (0 : Int) < (t915.size : Int) := of_decide_eq_true (by first | (with_reducible assumption) | assumption); omega)
              have hx58 : ∀ h : 0 < t915.size, ((t915[0]'h).toNat : Int) = bt t915 0 := bt_at t915 0
              clear p58
              have qi58 : (0 < (t915.size : Int)) = True := eq_true (of_decide_eq_true (by first | (with_reducible assumption) | assumption))
              replace q58 := eq_true q58
              go_wp2
              go_meet
              case rel => exact ⟨_, (true), rz, H', ⟨by have := HJ6.out; have := HJ38.out; first | omega | exact Nat.le_refl _⟩, ⟨bk⟩, ⟨bk⟩, ⟨bz⟩⟩
             ·replace H := hN H c59
              obtain ⟨c59b0, c59b1⟩ := eF c59
              have H' := Aside0.mk H
              clear H
              have p56 : 0 ≤ (0 : Int) := (by omega)
              have q56 : 0 < t915.size := (by have : (0 : Int) < (t915.size : Int) := of_decide_eq_true (by first | (with_reducible assumption) | assumption); omega)
              have hx56 : ∀ h : 0 < t915.size, ((t915[0]'h).toNat : Int) = bt t915 0 := bt_at t915 0
              clear p56
              have qi56 : (0 < (t915.size : Int)) = True := eq_true (of_decide_eq_true (by first | (with_reducible assumption) | assumption))
              replace q56 := eq_true q56
              have p58 : 0 ≤ (0 : Int) := (by omega)
              have q58 : 0 < t915.size := (by have : (0 : Int) < (t915.size : Int) := of_decide_eq_true (by first | (with_reducible assumption) | assumption); omega)
              have hx58 : ∀ h : 0 < t915.size, ((t915[0]'h).toNat : Int) = bt t915 0 := bt_at t915 0
              clear p58
              have qi58 : (0 < (t915.size : Int)) = True := eq_true (of_decide_eq_true (by first | (with_reducible assumption) | assumption))
              replace q58 := eq_true q58
              have p60 : 0 ≤ (0 : Int) := (by omega)
              have q60 : 0 < t915.size := (by have : (0 : Int) < (t915.size : Int) := of_decide_eq_true (by first | (with_reducible assumption) | assumption); omega)
              have hx60 : ∀ h : 0 < t915.size, ((t915[0]'h).toNat : Int) = bt t915 0 := bt_at t915 0
              clear p60
              have qi60 : (0 < (t915.size : Int)) = True := eq_true (of_decide_eq_true (by first | (with_reducible assumption) | assumption))
              replace q60 := eq_true q60
              go_wp2
              go_meet
              case rel => exact ⟨_, (((bt t915 0) == 32)), rz, H', ⟨by have := HJ6.out; have := HJ38.out; first | omega | exact Nat.le_refl _⟩, ⟨bk⟩, ⟨bk⟩, ⟨bz⟩⟩
           ·replace H := hN H c55
            exact absurd H (by simp)
          case rest =>
           clear HC54
           try clear c16
           try clear c17
           try clear c18
           try clear c18b0
           try clear c18b1
           try clear c18b2
           try clear c19
           try clear c19b0
           try clear c19b1
           try clear c20
           try clear c20b0
           try clear c20b1
           try clear c25
           try clear c25b0
           try clear c25b1
           try clear c31
           try clear c33
           try clear c33b0
           try clear c33b1
           try clear c33b2
           try clear c34
           try clear c34b0
           try clear c34b1
           try clear c40
           try clear c45
           try clear c47
           try clear c47b0
           try clear c47b1
           try clear c47b2
           try clear c48
           try clear c48b0
           try clear c48b1
           try clear c53
           try clear c53b0
           try clear c53b1
           try clear c55
           try clear c55b0
           try clear c55b1
           try clear p56
           try clear q56
           try clear hx56
           try clear qi56
           try clear c57
           try clear c57b0
           try clear c57b1
           try clear p58
           try clear q58
           try clear hx58
           try clear qi58
           try clear c59
           try clear c59b0
           try clear c59b1
           try clear p60
           try clear q60
           try clear hx60
           try clear qi60
           try clear hcz11_0 hcz11_1 hcz11_2 hcz11_3 hcz11_4 hcz11_5 hcz11_6 hcz11_7 hfz11_0 hfz11_1 hfz11_2 hfz11_3 hfz11_4 hfz11_5 hfz11_6 hfz11_7
           try clear hcz14_0 hcz14_1 hcz14_2 hcz14_3 hcz14_4 hcz14_5 hcz14_6 hcz14_7 hfz14_0 hfz14_1 hfz14_2 hfz14_3 hfz14_4 hfz14_5 hfz14_6 hfz14_7
           try clear hcz28_0 hcz28_1 hcz28_2 hcz28_3 hcz28_4 hcz28_5 hcz28_6 hcz28_7 hfz28_0 hfz28_1 hfz28_2 hfz28_3 hfz28_4 hfz28_5 hfz28_6 hfz28_7
           try clear hcz30_0 hcz30_1 hcz30_2 hcz30_3 hcz30_4 hcz30_5 hcz30_6 hcz30_7 hfz30_0 hfz30_1 hfz30_2 hfz30_3 hfz30_4 hfz30_5 hfz30_6 hfz30_7
           try clear hcz42_0 hcz42_1 hcz42_2 hcz42_3 hcz42_4 hcz42_5 hcz42_6 hcz42_7 hfz42_0 hfz42_1 hfz42_2 hfz42_3 hfz42_4 hfz42_5 hfz42_6 hfz42_7
           try clear hcz44_0 hcz44_1 hcz44_2 hcz44_3 hcz44_4 hcz44_5 hcz44_6 hcz44_7 hfz44_0 hfz44_1 hfz44_2 hfz44_3 hfz44_4 hfz44_5 hfz44_6 hfz44_7
           try clear hcz9_0 hcz9_1 hcz9_2 hcz9_3 hcz9_4 hcz9_5 hcz9_6 hcz9_7 hfz9_0 hfz9_1 hfz9_2 hfz9_3 hfz9_4 hfz9_5 hfz9_6 hfz9_7
           try clear p56
           try clear p58
           try clear p60
           try clear q56
           try clear q58
           try clear q60
           obtain ⟨kq, x122_53, rfl, HA, HJ53, BK910, BK914, HB⟩ := hcut
           cases kq with
           | zero => exact absurd HA.out (by simp [platenlaw06_FloatsWide.j2])
           | succ kj53 =>
            have H := HA.out
            clear HA
            simp only [platenlaw06_FloatsWide.j2] at H
            by_cases c61 : x122_53 = true
            ·subst c61
             replace H := hT H
             by_cases c62 : 0 ≤ 1
             ·replace H := hE H c62
              have c62b0 := eq_true c62
              have c62b1 : decide (0 ≤ 1) = true := decide_eq_true c62
              clear c62
              by_cases c63 : 1 ≤ (t915.size : Int)
              ·replace H := hE H c63
               have c63b0 := eq_true c63
               have c63b1 : decide (1 ≤ (t915.size : Int)) = true := decide_eq_true c63
               clear c63
               replace H := bs H
               obtain ⟨t926, A64, H⟩ := H
               by_cases c65 : (t915.extract 0 1).size + t926.size ≤ 9223372036854775807
               ·replace H := hE H c65
                have c65b0 := eq_true c65
                have c65b1 : decide ((t915.extract 0 1).size + t926.size ≤ 9223372036854775807) = true := decide_eq_true c65
                try have c65b2 : (9223372036854775807 < (t915.extract 0 1).size + t926.size) = False := eq_false (Nat.not_lt.2 c65)
                have c65b8 : (9223372036854775807 < min 1 t915.size + t926.size) = False := eq_false (by have h_ : (t915.extract 0 1).size + t926.size ≤ 9223372036854775807 := of_decide_eq_true (by assumption); rw [ByteArray.size_extract] at h_; omega)
                have c66b0 := eq_true (of_decide_eq_true (by first | (with_reducible assumption) | assumption) : 1 ≤ (t915.size : Int))
                by_cases c67 : ((t915.extract 0 1) ++ t926).size + (t915.extract 1 t915.size).size ≤ 9223372036854775807
                ·replace H := hE H c67
                 have c67b0 := eq_true c67
                 have c67b1 : decide (((t915.extract 0 1) ++ t926).size + (t915.extract 1 t915.size).size ≤ 9223372036854775807) = true := decide_eq_true c67
                 try have c67b2 : (9223372036854775807 < ((t915.extract 0 1) ++ t926).size + (t915.extract 1 t915.size).size) = False := eq_false (Nat.not_lt.2 c67)
                 have c67b8 : (9223372036854775807 < min 1 t915.size + t926.size + (t915.size - 1)) = False := eq_false (by have h_ : ((t915.extract 0 1) ++ t926).size + (t915.extract 1 t915.size).size ≤ 9223372036854775807 := of_decide_eq_true (by assumption); rw [ByteArray.size_append, ByteArray.size_extract, ByteArray.size_extract] at h_; omega)
                 by_cases c68 : t912.toList = (((t915.extract 0 1) ++ t926) ++ (t915.extract 1 t915.size)).toList
                 ·replace H := hE H c68
                  have c68b0 : (t912.toList == (((t915.extract 0 1) ++ t926) ++ (t915.extract 1 t915.size)).toList) = true := beq_iff_eq.mpr c68
                  have c68b1 : (t912.toList != (((t915.extract 0 1) ++ t926) ++ (t915.extract 1 t915.size)).toList) = false := bne_eq_false_iff_eq.mpr c68
                  clear c68
                  replace H := bs H
                  obtain ⟨t927, A69, H⟩ := H
                  obtain rfl := Option.some.inj H
                  try go_wp2
                  replace BK910 := Aside0.mk (blk_drew BK910.out)
                  replace BK914 := Aside0.mk (blk_drew BK914.out)
                  replace HB := Aside0.mk (below_drew1 HB.out)
                  refine start_ (n := 16) (S := fun w' => True) (ds := []) #[false, false, false, false, false, false, false, false, false, false, false, false, false, false, false, false] (by kernel_rfl) rfl rfl trivial (fun hHeld => ?_); refine with_tabW platenlaw06_FloatsWide.tab21 platenlaw06_FloatsWide.bits21 (fun HT_ HW_ => ?_)
                  generalize wc.drew = w70 at BK910 BK914 HB hHeld ⊢
                  refine pure_ (i := 0) (N := some 123) (v := ?_) (a' := ?_) #[true, false, false, false, false, false, false, false, false, false, false, false, false, false, false, false] rfl rfl (any_of HT_.out (by kernel_rfl)) (fun _ _ _ h => h) (Or.inl ⟨by rfl, ?_⟩) ?_ ?_
                  rotate_left
                  ·intro w'
                   go_simp
                   with_reducible rfl
                  rotate_left
                  ·simp only [Act.put, List.setIfInBounds_toArray, List.set_cons_zero, List.set_cons_succ, i64_w, i32_w]
                   rfl
                  refine pure_ (i := 1) (N := some 124) (v := ?_) (a' := ?_) #[true, true, false, false, false, false, false, false, false, false, false, false, false, false, false, false] rfl rfl (any_of HT_.out (by kernel_rfl)) (fun _ _ _ h => h) (Or.inl ⟨by rfl, ?_⟩) ?_ ?_
                  rotate_left
                  ·intro w'
                   go_simp
                   with_reducible rfl
                  rotate_left
                  ·simp only [Act.put, List.setIfInBounds_toArray, List.set_cons_zero, List.set_cons_succ, i64_w, i32_w]
                   rfl
                  refine pure_ (i := 2) (N := some 125) (v := ?_) (a' := ?_) #[true, true, true, false, false, false, false, false, false, false, false, false, false, false, false, false] rfl rfl (any_of HT_.out (by kernel_rfl)) (fun _ _ _ h => h) (Or.inl ⟨by rfl, ?_⟩) ?_ ?_
                  rotate_left
                  ·intro w'
                   go_simp
                   with_reducible rfl
                  rotate_left
                  ·simp only [Act.put, List.setIfInBounds_toArray, List.set_cons_zero, List.set_cons_succ, i64_w, i32_w]
                   rfl
                  refine pure_ (i := 3) (N := some 126) (v := ?_) (a' := ?_) #[true, true, true, true, false, false, false, false, false, false, false, false, false, false, false, false] rfl rfl (any_of HT_.out (by kernel_rfl)) (fun _ _ _ h => h) (Or.inl ⟨by rfl, ?_⟩) ?_ ?_
                  rotate_left
                  ·intro w'
                   go_simp
                   with_reducible rfl
                  rotate_left
                  ·simp only [Act.put, List.setIfInBounds_toArray, List.set_cons_zero, List.set_cons_succ, i64_w, i32_w]
                   rfl
                  refine pure_ (i := 4) (N := some 127) (v := ?_) (a' := ?_) #[true, true, true, true, true, false, false, false, false, false, false, false, false, false, false, false] rfl rfl (any_of HT_.out (by kernel_rfl)) (fun _ _ _ h => h) (Or.inl ⟨by rfl, ?_⟩) ?_ ?_
                  rotate_left
                  ·intro w'
                   go_simp
                   with_reducible rfl
                  rotate_left
                  ·simp only [Act.put, List.setIfInBounds_toArray, List.set_cons_zero, List.set_cons_succ, i64_w, i32_w]
                   rfl
                  refine pure_ (i := 7) (N := some 130) (v := ?_) (a' := ?_) #[true, true, true, true, true, false, false, true, false, false, false, false, false, false, false, false] rfl rfl (any_of HT_.out (by kernel_rfl)) (fun _ _ _ h => h) (Or.inl ⟨by rfl, ?_⟩) ?_ ?_
                  rotate_left
                  ·intro w'
                   go_simp
                   with_reducible rfl
                  rotate_left
                  ·simp only [Act.put, List.setIfInBounds_toArray, List.set_cons_zero, List.set_cons_succ, i64_w, i32_w]
                   rfl
                  refine pure_ (i := 8) (N := some 131) (v := ?_) (a' := ?_) #[true, true, true, true, true, false, false, true, true, false, false, false, false, false, false, false] rfl rfl (any_of HT_.out (by kernel_rfl)) (fun _ _ _ h => h) (Or.inl ⟨by rfl, ?_⟩) ?_ ?_
                  rotate_left
                  ·intro w'
                   go_simp
                   with_reducible rfl
                  rotate_left
                  ·simp only [Act.put, List.setIfInBounds_toArray, List.set_cons_zero, List.set_cons_succ, i64_w, i32_w]
                   rfl
                  refine pure_ (i := 9) (N := some 132) (v := ?_) (a' := ?_) #[true, true, true, true, true, false, false, true, true, true, false, false, false, false, false, false] rfl rfl (any_of HT_.out (by kernel_rfl)) (fun _ _ _ h => h) (Or.inl ⟨by rfl, ?_⟩) ?_ ?_
                  rotate_left
                  ·intro w'
                   go_simp
                   with_reducible rfl
                  rotate_left
                  ·simp only [Act.put, List.setIfInBounds_toArray, List.set_cons_zero, List.set_cons_succ, i64_w, i32_w]
                   rfl
                  refine one_ (i := 5) (N := some 128) #[true, true, true, true, true, true, false, true, true, true, false, false, false, false, false, false] rfl rfl (one_of HT_.out (by kernel_rfl)) (by decide) (fun K hK => ?_)
                  refine goes_ Tryz.func27 (by kernel_rfl) rfl #[.int .u8 48, .int .i64 (wrap64 ((t912.size : Int) - (t915.size : Int)))] (by rfl) rfl rfl lz ?_
                  with_reducible refine (buf_Fill.calls 48 (wrap64 ((t912.size : Int) - (t915.size : Int))) t926 _ A64.out).mono ?_
                  rintro e w71 ⟨rfl, hb⟩
                  refine ⟨_, rfl, ?_⟩
                  replace BK910 := Aside0.mk (blk_below (g := gb910) (o := .cells #[.bool a2_0, .bool false, .bool a2_2, .bool a2_3, .bool a2_4, .int .i64 a2_5, .int .i64 a2_6, .int .i32 a2_7] 26 (0, 0)) bk hb)
                  replace BK914 := Aside0.mk (blk_below (g := gb914) (o := .cells #[.bool a2_0, .bool false, .bool a2_2, .bool a2_3, .bool a2_4, .int .i64 (-1), .int .i64 a2_6, .int .i32 a2_7] 26 (0, 0)) bk hb)
                  replace HB := Aside0.mk (below_step bz hb)
                  (try clear hb)
                  (try clear hb2)
                  (try clear hk)
                  (try clear hi)
                  refine hK.out _ _ trivial (fun hHeld => ?_)
                  clear hK K
                  refine norm_ (a' := ?_) ?_ ?_
                  rotate_left
                  ·show Act.put _ (some 128) _ = _
                   simp only [Act.put, List.setIfInBounds_toArray, List.set_cons_zero, List.set_cons_succ, i64_w, i32_w]
                   rfl
                  refine pure_ (i := 6) (N := some 129) (v := ?_) (a' := ?_) #[true, true, true, true, true, true, true, true, true, true, false, false, false, false, false, false] rfl rfl (any_of HT_.out (by kernel_rfl)) (fun _ _ _ h => h) (Or.inl ⟨by rfl, ?_⟩) ?_ ?_
                  rotate_left
                  ·intro w'
                   go_simp
                   with_reducible rfl
                  rotate_left
                  ·simp only [Act.put, List.setIfInBounds_toArray, List.set_cons_zero, List.set_cons_succ, i64_w, i32_w]
                   rfl
                  refine pure_ (i := 10) (N := some 133) (v := ?_) (a' := ?_) #[true, true, true, true, true, true, true, true, true, true, true, false, false, false, false, false] rfl rfl (any_of HT_.out (by kernel_rfl)) (fun _ _ _ h => h) (Or.inl ⟨by rfl, ?_⟩) ?_ ?_
                  rotate_left
                  ·intro w'
                   go_simp
                   with_reducible rfl
                  rotate_left
                  ·simp only [Act.put, List.setIfInBounds_toArray, List.set_cons_zero, List.set_cons_succ, i64_w, i32_w]
                   rfl
                  refine pure_ (i := 11) (N := some 134) (v := ?_) (a' := ?_) #[true, true, true, true, true, true, true, true, true, true, true, true, false, false, false, false] rfl rfl (any_of HT_.out (by kernel_rfl)) (fun _ _ _ h => h) (Or.inl ⟨by rfl, ?_⟩) ?_ ?_
                  rotate_left
                  ·intro w'
                   go_simp
                   with_reducible rfl
                  rotate_left
                  ·simp only [Act.put, List.setIfInBounds_toArray, List.set_cons_zero, List.set_cons_succ, i64_w, i32_w]
                   rfl
                  refine pure_ (i := 12) (N := some 135) (v := ?_) (a' := ?_) #[true, true, true, true, true, true, true, true, true, true, true, true, true, false, false, false] rfl rfl (any_of HT_.out (by kernel_rfl)) (fun _ _ _ h => h) (Or.inl ⟨by rfl, ?_⟩) ?_ ?_
                  rotate_left
                  ·intro w'
                   go_simp
                   with_reducible rfl
                  rotate_left
                  ·simp only [Act.put, List.setIfInBounds_toArray, List.set_cons_zero, List.set_cons_succ, i64_w, i32_w]
                   rfl
                  refine one_ (i := 13) (N := some 136) #[true, true, true, true, true, true, true, true, true, true, true, true, true, true, false, false] rfl rfl (one_of HT_.out (by kernel_rfl)) (by decide) (fun K hK => ?_)
                  refine goes_ Tryz.func23 (by kernel_rfl) rfl #[] (by rfl) rfl rfl lz ?_
                  with_reducible refine (platenlaw06_lives.calls kj53  t927 _ A69.out).mono ?_
                  rintro e w72 ⟨rfl, hb⟩
                  refine ⟨_, rfl, ?_⟩
                  replace BK910 := Aside0.mk (blk_below (g := gb910) (o := .cells #[.bool a2_0, .bool false, .bool a2_2, .bool a2_3, .bool a2_4, .int .i64 a2_5, .int .i64 a2_6, .int .i32 a2_7] 26 (0, 0)) bk hb)
                  replace BK914 := Aside0.mk (blk_below (g := gb914) (o := .cells #[.bool a2_0, .bool false, .bool a2_2, .bool a2_3, .bool a2_4, .int .i64 (-1), .int .i64 a2_6, .int .i32 a2_7] 26 (0, 0)) bk hb)
                  replace HB := Aside0.mk (below_step bz hb)
                  (try clear hb)
                  (try clear hb2)
                  (try clear hk)
                  (try clear hi)
                  refine hK.out _ _ trivial (fun hHeld => ?_)
                  clear hK K
                  refine norm_ (a' := ?_) ?_ ?_
                  rotate_left
                  ·show Act.put _ (some 136) _ = _
                   simp only [Act.put, List.setIfInBounds_toArray, List.set_cons_zero, List.set_cons_succ, i64_w, i32_w]
                   rfl
                  refine pure_ (i := 14) (N := some 137) (v := ?_) (a' := ?_) #[true, true, true, true, true, true, true, true, true, true, true, true, true, true, true, false] rfl rfl (any_of HT_.out (by kernel_rfl)) (fun _ _ _ h => h) (Or.inl ⟨by rfl, ?_⟩) ?_ ?_
                  rotate_left
                  ·intro w'
                   go_simp
                   with_reducible rfl
                  rotate_left
                  ·simp only [Act.put, List.setIfInBounds_toArray, List.set_cons_zero, List.set_cons_succ, i64_w, i32_w]
                   rfl
                  refine pure_ (i := 15) (N := some 6) (v := ?_) (a' := ?_) #[true, true, true, true, true, true, true, true, true, true, true, true, true, true, true, true] rfl rfl (any_of HT_.out (by kernel_rfl)) (fun _ _ _ h => h) (Or.inl ⟨by rfl, ?_⟩) ?_ ?_
                  rotate_left
                  ·intro w'
                   go_simp
                   with_reducible rfl
                  rotate_left
                  ·simp only [Act.put, List.setIfInBounds_toArray, List.set_cons_zero, List.set_cons_succ, i64_w, i32_w]
                   rfl
                  refine done_ (done_of HT_.out (by kernel_rfl)) ?_
                  try go_wp2
                  go_ret
                  exact ⟨by first | rfl | (simp [errW_none, errW_some] <;> rfl) | (simp only [← hji23, ← hji24]; first | rfl | (simp [errW_none, errW_some] <;> rfl)) | (simp [*, errW_none, errW_some] <;> rfl), bz⟩
                 ·replace H := hN H c68
                  have c68b0 : (t912.toList == (((t915.extract 0 1) ++ t926) ++ (t915.extract 1 t915.size)).toList) = false := beq_eq_false_iff_ne.mpr c68
                  have c68b1 : (t912.toList != (((t915.extract 0 1) ++ t926) ++ (t915.extract 1 t915.size)).toList) = true := bne_iff_ne.mpr c68
                  obtain rfl := Option.some.inj H
                  try go_wp2
                  replace BK910 := Aside0.mk (blk_drew BK910.out)
                  replace BK914 := Aside0.mk (blk_drew BK914.out)
                  replace HB := Aside0.mk (below_drew1 HB.out)
                  refine start_ (n := 16) (S := fun w' => True) (ds := []) #[false, false, false, false, false, false, false, false, false, false, false, false, false, false, false, false] (by kernel_rfl) rfl rfl trivial (fun hHeld => ?_); refine with_tabW platenlaw06_FloatsWide.tab21 platenlaw06_FloatsWide.bits21 (fun HT_ HW_ => ?_)
                  generalize wc.drew = w73 at BK910 BK914 HB hHeld ⊢
                  refine pure_ (i := 0) (N := some 123) (v := ?_) (a' := ?_) #[true, false, false, false, false, false, false, false, false, false, false, false, false, false, false, false] rfl rfl (any_of HT_.out (by kernel_rfl)) (fun _ _ _ h => h) (Or.inl ⟨by rfl, ?_⟩) ?_ ?_
                  rotate_left
                  ·intro w'
                   go_simp
                   with_reducible rfl
                  rotate_left
                  ·simp only [Act.put, List.setIfInBounds_toArray, List.set_cons_zero, List.set_cons_succ, i64_w, i32_w]
                   rfl
                  refine pure_ (i := 1) (N := some 124) (v := ?_) (a' := ?_) #[true, true, false, false, false, false, false, false, false, false, false, false, false, false, false, false] rfl rfl (any_of HT_.out (by kernel_rfl)) (fun _ _ _ h => h) (Or.inl ⟨by rfl, ?_⟩) ?_ ?_
                  rotate_left
                  ·intro w'
                   go_simp
                   with_reducible rfl
                  rotate_left
                  ·simp only [Act.put, List.setIfInBounds_toArray, List.set_cons_zero, List.set_cons_succ, i64_w, i32_w]
                   rfl
                  refine pure_ (i := 2) (N := some 125) (v := ?_) (a' := ?_) #[true, true, true, false, false, false, false, false, false, false, false, false, false, false, false, false] rfl rfl (any_of HT_.out (by kernel_rfl)) (fun _ _ _ h => h) (Or.inl ⟨by rfl, ?_⟩) ?_ ?_
                  rotate_left
                  ·intro w'
                   go_simp
                   with_reducible rfl
                  rotate_left
                  ·simp only [Act.put, List.setIfInBounds_toArray, List.set_cons_zero, List.set_cons_succ, i64_w, i32_w]
                   rfl
                  refine pure_ (i := 3) (N := some 126) (v := ?_) (a' := ?_) #[true, true, true, true, false, false, false, false, false, false, false, false, false, false, false, false] rfl rfl (any_of HT_.out (by kernel_rfl)) (fun _ _ _ h => h) (Or.inl ⟨by rfl, ?_⟩) ?_ ?_
                  rotate_left
                  ·intro w'
                   go_simp
                   with_reducible rfl
                  rotate_left
                  ·simp only [Act.put, List.setIfInBounds_toArray, List.set_cons_zero, List.set_cons_succ, i64_w, i32_w]
                   rfl
                  refine pure_ (i := 4) (N := some 127) (v := ?_) (a' := ?_) #[true, true, true, true, true, false, false, false, false, false, false, false, false, false, false, false] rfl rfl (any_of HT_.out (by kernel_rfl)) (fun _ _ _ h => h) (Or.inl ⟨by rfl, ?_⟩) ?_ ?_
                  rotate_left
                  ·intro w'
                   go_simp
                   with_reducible rfl
                  rotate_left
                  ·simp only [Act.put, List.setIfInBounds_toArray, List.set_cons_zero, List.set_cons_succ, i64_w, i32_w]
                   rfl
                  refine pure_ (i := 7) (N := some 130) (v := ?_) (a' := ?_) #[true, true, true, true, true, false, false, true, false, false, false, false, false, false, false, false] rfl rfl (any_of HT_.out (by kernel_rfl)) (fun _ _ _ h => h) (Or.inl ⟨by rfl, ?_⟩) ?_ ?_
                  rotate_left
                  ·intro w'
                   go_simp
                   with_reducible rfl
                  rotate_left
                  ·simp only [Act.put, List.setIfInBounds_toArray, List.set_cons_zero, List.set_cons_succ, i64_w, i32_w]
                   rfl
                  refine pure_ (i := 8) (N := some 131) (v := ?_) (a' := ?_) #[true, true, true, true, true, false, false, true, true, false, false, false, false, false, false, false] rfl rfl (any_of HT_.out (by kernel_rfl)) (fun _ _ _ h => h) (Or.inl ⟨by rfl, ?_⟩) ?_ ?_
                  rotate_left
                  ·intro w'
                   go_simp
                   with_reducible rfl
                  rotate_left
                  ·simp only [Act.put, List.setIfInBounds_toArray, List.set_cons_zero, List.set_cons_succ, i64_w, i32_w]
                   rfl
                  refine pure_ (i := 9) (N := some 132) (v := ?_) (a' := ?_) #[true, true, true, true, true, false, false, true, true, true, false, false, false, false, false, false] rfl rfl (any_of HT_.out (by kernel_rfl)) (fun _ _ _ h => h) (Or.inl ⟨by rfl, ?_⟩) ?_ ?_
                  rotate_left
                  ·intro w'
                   go_simp
                   with_reducible rfl
                  rotate_left
                  ·simp only [Act.put, List.setIfInBounds_toArray, List.set_cons_zero, List.set_cons_succ, i64_w, i32_w]
                   rfl
                  refine one_ (i := 5) (N := some 128) #[true, true, true, true, true, true, false, true, true, true, false, false, false, false, false, false] rfl rfl (one_of HT_.out (by kernel_rfl)) (by decide) (fun K hK => ?_)
                  refine goes_ Tryz.func27 (by kernel_rfl) rfl #[.int .u8 48, .int .i64 (wrap64 ((t912.size : Int) - (t915.size : Int)))] (by rfl) rfl rfl lz ?_
                  with_reducible refine (buf_Fill.calls 48 (wrap64 ((t912.size : Int) - (t915.size : Int))) t926 _ A64.out).mono ?_
                  rintro e w74 ⟨rfl, hb⟩
                  refine ⟨_, rfl, ?_⟩
                  replace BK910 := Aside0.mk (blk_below (g := gb910) (o := .cells #[.bool a2_0, .bool false, .bool a2_2, .bool a2_3, .bool a2_4, .int .i64 a2_5, .int .i64 a2_6, .int .i32 a2_7] 26 (0, 0)) bk hb)
                  replace BK914 := Aside0.mk (blk_below (g := gb914) (o := .cells #[.bool a2_0, .bool false, .bool a2_2, .bool a2_3, .bool a2_4, .int .i64 (-1), .int .i64 a2_6, .int .i32 a2_7] 26 (0, 0)) bk hb)
                  replace HB := Aside0.mk (below_step bz hb)
                  (try clear hb)
                  (try clear hb2)
                  (try clear hk)
                  (try clear hi)
                  refine hK.out _ _ trivial (fun hHeld => ?_)
                  clear hK K
                  refine norm_ (a' := ?_) ?_ ?_
                  rotate_left
                  ·show Act.put _ (some 128) _ = _
                   simp only [Act.put, List.setIfInBounds_toArray, List.set_cons_zero, List.set_cons_succ, i64_w, i32_w]
                   rfl
                  refine pure_ (i := 6) (N := some 129) (v := ?_) (a' := ?_) #[true, true, true, true, true, true, true, true, true, true, false, false, false, false, false, false] rfl rfl (any_of HT_.out (by kernel_rfl)) (fun _ _ _ h => h) (Or.inl ⟨by rfl, ?_⟩) ?_ ?_
                  rotate_left
                  ·intro w'
                   go_simp
                   with_reducible rfl
                  rotate_left
                  ·simp only [Act.put, List.setIfInBounds_toArray, List.set_cons_zero, List.set_cons_succ, i64_w, i32_w]
                   rfl
                  refine pure_ (i := 10) (N := some 133) (v := ?_) (a' := ?_) #[true, true, true, true, true, true, true, true, true, true, true, false, false, false, false, false] rfl rfl (any_of HT_.out (by kernel_rfl)) (fun _ _ _ h => h) (Or.inl ⟨by rfl, ?_⟩) ?_ ?_
                  rotate_left
                  ·intro w'
                   go_simp
                   with_reducible rfl
                  rotate_left
                  ·simp only [Act.put, List.setIfInBounds_toArray, List.set_cons_zero, List.set_cons_succ, i64_w, i32_w]
                   rfl
                  refine pure_ (i := 11) (N := some 134) (v := ?_) (a' := ?_) #[true, true, true, true, true, true, true, true, true, true, true, true, false, false, false, false] rfl rfl (any_of HT_.out (by kernel_rfl)) (fun _ _ _ h => h) (Or.inl ⟨by rfl, ?_⟩) ?_ ?_
                  rotate_left
                  ·intro w'
                   go_simp
                   with_reducible rfl
                  rotate_left
                  ·simp only [Act.put, List.setIfInBounds_toArray, List.set_cons_zero, List.set_cons_succ, i64_w, i32_w]
                   rfl
                  refine pure_ (i := 12) (N := some 135) (v := ?_) (a' := ?_) #[true, true, true, true, true, true, true, true, true, true, true, true, true, false, false, false] rfl rfl (any_of HT_.out (by kernel_rfl)) (fun _ _ _ h => h) (Or.inl ⟨by rfl, ?_⟩) ?_ ?_
                  rotate_left
                  ·intro w'
                   go_simp
                   with_reducible rfl
                  rotate_left
                  ·simp only [Act.put, List.setIfInBounds_toArray, List.set_cons_zero, List.set_cons_succ, i64_w, i32_w]
                   rfl
                  refine pure_ (i := 13) (N := some 136) (v := undef) (a' := ?_) #[true, true, true, true, true, true, true, true, true, true, true, true, true, true, false, false] rfl rfl (any_of HT_.out (by kernel_rfl)) (fun _ _ _ h => h) (Or.inr ⟨by rfl, rfl⟩) ?_ ?_
                  rotate_left
                  ·simp only [Act.put, List.setIfInBounds_toArray, List.set_cons_zero, List.set_cons_succ, i64_w, i32_w]
                   rfl
                  refine pure_ (i := 14) (N := some 137) (v := ?_) (a' := ?_) #[true, true, true, true, true, true, true, true, true, true, true, true, true, true, true, false] rfl rfl (any_of HT_.out (by kernel_rfl)) (fun _ _ _ h => h) (Or.inl ⟨by rfl, ?_⟩) ?_ ?_
                  rotate_left
                  ·intro w'
                   go_simp
                   with_reducible rfl
                  rotate_left
                  ·simp only [Act.put, List.setIfInBounds_toArray, List.set_cons_zero, List.set_cons_succ, i64_w, i32_w]
                   rfl
                  refine pure_ (i := 15) (N := some 6) (v := ?_) (a' := ?_) #[true, true, true, true, true, true, true, true, true, true, true, true, true, true, true, true] rfl rfl (any_of HT_.out (by kernel_rfl)) (fun _ _ _ h => h) (Or.inl ⟨by rfl, ?_⟩) ?_ ?_
                  rotate_left
                  ·intro w'
                   go_simp
                   with_reducible rfl
                  rotate_left
                  ·simp only [Act.put, List.setIfInBounds_toArray, List.set_cons_zero, List.set_cons_succ, i64_w, i32_w]
                   rfl
                  refine done_ (done_of HT_.out (by kernel_rfl)) ?_
                  try go_wp2
                  go_ret
                  exact ⟨by first | rfl | (simp [errW_none, errW_some] <;> rfl) | (simp only [← hji23, ← hji24]; first | rfl | (simp [errW_none, errW_some] <;> rfl)) | (simp [*, errW_none, errW_some] <;> rfl), bz⟩
                ·replace H := hN H c67
                 exact absurd H (by simp)
               ·replace H := hN H c65
                exact absurd H (by simp)
              ·replace H := hN H c63
               exact absurd H (by simp)
             ·replace H := hN H c62
              exact absurd H (by simp)
            ·replace c61 := Bool.eq_false_iff.mpr c61
             subst c61
             replace H := hF H
             by_cases c75 : (0 : Int) ≤ 0
             ·replace H := hE H c75
              have c75b0 := eq_true c75
              have c75b1 : decide ((0 : Int) ≤ 0) = true := decide_eq_true c75
              clear c75
              by_cases c76 : 0 ≤ (t915.size : Int)
              ·replace H := hE H c76
               have c76b0 := eq_true c76
               have c76b1 : decide (0 ≤ (t915.size : Int)) = true := decide_eq_true c76
               clear c76
               replace H := bs H
               obtain ⟨t928, A77, H⟩ := H
               have e0_ : (t915.extract 0 (0 : Int).toNat).size + t928.size = t928.size := by simp
               have e1_ : (t915.extract 0 (0 : Int).toNat) ++ t928 = t928 := by simp
               have e2_ : t915.extract (0 : Int).toNat t915.size = t915 := by simp
               simp only [e0_, e1_, e2_] at H
               clear e0_ e1_ e2_
               by_cases c78 : t928.size ≤ 9223372036854775807
               ·replace H := hE H c78
                have c78b0 := eq_true c78
                have c78b1 : decide (t928.size ≤ 9223372036854775807) = true := decide_eq_true c78
                try have c78b2 : (9223372036854775807 < t928.size) = False := eq_false (Nat.not_lt.2 c78)
                have c79b0 := eq_true (of_decide_eq_true (by first | (with_reducible assumption) | assumption) : (0 : Int) ≤ 0)
                have c80b0 := eq_true (of_decide_eq_true (by first | (with_reducible assumption) | assumption) : 0 ≤ (t915.size : Int))
                by_cases c81 : t928.size + t915.size ≤ 9223372036854775807
                ·replace H := hE H c81
                 have c81b0 := eq_true c81
                 have c81b1 : decide (t928.size + t915.size ≤ 9223372036854775807) = true := decide_eq_true c81
                 try have c81b2 : (9223372036854775807 < t928.size + t915.size) = False := eq_false (Nat.not_lt.2 c81)
                 by_cases c82 : t912.toList = (t928 ++ t915).toList
                 ·replace H := hE H c82
                  have c82b0 : (t912.toList == (t928 ++ t915).toList) = true := beq_iff_eq.mpr c82
                  have c82b1 : (t912.toList != (t928 ++ t915).toList) = false := bne_eq_false_iff_eq.mpr c82
                  clear c82
                  replace H := bs H
                  obtain ⟨t929, A83, H⟩ := H
                  obtain rfl := Option.some.inj H
                  try go_wp2
                  replace BK910 := Aside0.mk (blk_drew BK910.out)
                  replace BK914 := Aside0.mk (blk_drew BK914.out)
                  replace HB := Aside0.mk (below_drew1 HB.out)
                  refine start_ (n := 16) (S := fun w' => True) (ds := []) #[false, false, false, false, false, false, false, false, false, false, false, false, false, false, false, false] (by kernel_rfl) rfl rfl trivial (fun hHeld => ?_); refine with_tabW platenlaw06_FloatsWide.tab21 platenlaw06_FloatsWide.bits21 (fun HT_ HW_ => ?_)
                  generalize wc.drew = w84 at BK910 BK914 HB hHeld ⊢
                  refine pure_ (i := 0) (N := some 123) (v := ?_) (a' := ?_) #[true, false, false, false, false, false, false, false, false, false, false, false, false, false, false, false] rfl rfl (any_of HT_.out (by kernel_rfl)) (fun _ _ _ h => h) (Or.inl ⟨by rfl, ?_⟩) ?_ ?_
                  rotate_left
                  ·intro w'
                   go_simp
                   with_reducible rfl
                  rotate_left
                  ·simp only [Act.put, List.setIfInBounds_toArray, List.set_cons_zero, List.set_cons_succ, i64_w, i32_w]
                   rfl
                  refine pure_ (i := 1) (N := some 124) (v := ?_) (a' := ?_) #[true, true, false, false, false, false, false, false, false, false, false, false, false, false, false, false] rfl rfl (any_of HT_.out (by kernel_rfl)) (fun _ _ _ h => h) (Or.inl ⟨by rfl, ?_⟩) ?_ ?_
                  rotate_left
                  ·intro w'
                   go_simp
                   with_reducible rfl
                  rotate_left
                  ·simp only [Act.put, List.setIfInBounds_toArray, List.set_cons_zero, List.set_cons_succ, i64_w, i32_w]
                   rfl
                  refine pure_ (i := 2) (N := some 125) (v := ?_) (a' := ?_) #[true, true, true, false, false, false, false, false, false, false, false, false, false, false, false, false] rfl rfl (any_of HT_.out (by kernel_rfl)) (fun _ _ _ h => h) (Or.inl ⟨by rfl, ?_⟩) ?_ ?_
                  rotate_left
                  ·intro w'
                   go_simp
                   with_reducible rfl
                  rotate_left
                  ·simp only [Act.put, List.setIfInBounds_toArray, List.set_cons_zero, List.set_cons_succ, i64_w, i32_w]
                   rfl
                  refine pure_ (i := 3) (N := some 126) (v := ?_) (a' := ?_) #[true, true, true, true, false, false, false, false, false, false, false, false, false, false, false, false] rfl rfl (any_of HT_.out (by kernel_rfl)) (fun _ _ _ h => h) (Or.inl ⟨by rfl, ?_⟩) ?_ ?_
                  rotate_left
                  ·intro w'
                   go_simp
                   with_reducible rfl
                  rotate_left
                  ·simp only [Act.put, List.setIfInBounds_toArray, List.set_cons_zero, List.set_cons_succ, i64_w, i32_w]
                   rfl
                  refine pure_ (i := 4) (N := some 127) (v := ?_) (a' := ?_) #[true, true, true, true, true, false, false, false, false, false, false, false, false, false, false, false] rfl rfl (any_of HT_.out (by kernel_rfl)) (fun _ _ _ h => h) (Or.inl ⟨by rfl, ?_⟩) ?_ ?_
                  rotate_left
                  ·intro w'
                   go_simp
                   with_reducible rfl
                  rotate_left
                  ·simp only [Act.put, List.setIfInBounds_toArray, List.set_cons_zero, List.set_cons_succ, i64_w, i32_w]
                   rfl
                  refine pure_ (i := 7) (N := some 130) (v := ?_) (a' := ?_) #[true, true, true, true, true, false, false, true, false, false, false, false, false, false, false, false] rfl rfl (any_of HT_.out (by kernel_rfl)) (fun _ _ _ h => h) (Or.inl ⟨by rfl, ?_⟩) ?_ ?_
                  rotate_left
                  ·intro w'
                   go_simp
                   with_reducible rfl
                  rotate_left
                  ·simp only [Act.put, List.setIfInBounds_toArray, List.set_cons_zero, List.set_cons_succ, i64_w, i32_w]
                   rfl
                  refine pure_ (i := 8) (N := some 131) (v := ?_) (a' := ?_) #[true, true, true, true, true, false, false, true, true, false, false, false, false, false, false, false] rfl rfl (any_of HT_.out (by kernel_rfl)) (fun _ _ _ h => h) (Or.inl ⟨by rfl, ?_⟩) ?_ ?_
                  rotate_left
                  ·intro w'
                   go_simp
                   with_reducible rfl
                  rotate_left
                  ·simp only [Act.put, List.setIfInBounds_toArray, List.set_cons_zero, List.set_cons_succ, i64_w, i32_w]
                   rfl
                  refine pure_ (i := 9) (N := some 132) (v := ?_) (a' := ?_) #[true, true, true, true, true, false, false, true, true, true, false, false, false, false, false, false] rfl rfl (any_of HT_.out (by kernel_rfl)) (fun _ _ _ h => h) (Or.inl ⟨by rfl, ?_⟩) ?_ ?_
                  rotate_left
                  ·intro w'
                   go_simp
                   with_reducible rfl
                  rotate_left
                  ·simp only [Act.put, List.setIfInBounds_toArray, List.set_cons_zero, List.set_cons_succ, i64_w, i32_w]
                   rfl
                  refine one_ (i := 5) (N := some 128) #[true, true, true, true, true, true, false, true, true, true, false, false, false, false, false, false] rfl rfl (one_of HT_.out (by kernel_rfl)) (by decide) (fun K hK => ?_)
                  refine goes_ Tryz.func27 (by kernel_rfl) rfl #[.int .u8 48, .int .i64 (wrap64 ((t912.size : Int) - (t915.size : Int)))] (by rfl) rfl rfl lz ?_
                  with_reducible refine (buf_Fill.calls 48 (wrap64 ((t912.size : Int) - (t915.size : Int))) t928 _ A77.out).mono ?_
                  rintro e w85 ⟨rfl, hb⟩
                  refine ⟨_, rfl, ?_⟩
                  replace BK910 := Aside0.mk (blk_below (g := gb910) (o := .cells #[.bool a2_0, .bool false, .bool a2_2, .bool a2_3, .bool a2_4, .int .i64 a2_5, .int .i64 a2_6, .int .i32 a2_7] 26 (0, 0)) bk hb)
                  replace BK914 := Aside0.mk (blk_below (g := gb914) (o := .cells #[.bool a2_0, .bool false, .bool a2_2, .bool a2_3, .bool a2_4, .int .i64 (-1), .int .i64 a2_6, .int .i32 a2_7] 26 (0, 0)) bk hb)
                  replace HB := Aside0.mk (below_step bz hb)
                  (try clear hb)
                  (try clear hb2)
                  (try clear hk)
                  (try clear hi)
                  refine hK.out _ _ trivial (fun hHeld => ?_)
                  clear hK K
                  refine norm_ (a' := ?_) ?_ ?_
                  rotate_left
                  ·show Act.put _ (some 128) _ = _
                   simp only [Act.put, List.setIfInBounds_toArray, List.set_cons_zero, List.set_cons_succ, i64_w, i32_w]
                   rfl
                  refine pure_ (i := 6) (N := some 129) (v := ?_) (a' := ?_) #[true, true, true, true, true, true, true, true, true, true, false, false, false, false, false, false] rfl rfl (any_of HT_.out (by kernel_rfl)) (fun _ _ _ h => h) (Or.inl ⟨by rfl, ?_⟩) ?_ ?_
                  rotate_left
                  ·intro w'
                   go_simp
                   with_reducible rfl
                  rotate_left
                  ·simp only [Act.put, List.setIfInBounds_toArray, List.set_cons_zero, List.set_cons_succ, i64_w, i32_w]
                   rfl
                  refine pure_ (i := 10) (N := some 133) (v := ?_) (a' := ?_) #[true, true, true, true, true, true, true, true, true, true, true, false, false, false, false, false] rfl rfl (any_of HT_.out (by kernel_rfl)) (fun _ _ _ h => h) (Or.inl ⟨by rfl, ?_⟩) ?_ ?_
                  rotate_left
                  ·intro w'
                   go_simp
                   with_reducible rfl
                  rotate_left
                  ·simp only [Act.put, List.setIfInBounds_toArray, List.set_cons_zero, List.set_cons_succ, i64_w, i32_w]
                   rfl
                  refine pure_ (i := 11) (N := some 134) (v := ?_) (a' := ?_) #[true, true, true, true, true, true, true, true, true, true, true, true, false, false, false, false] rfl rfl (any_of HT_.out (by kernel_rfl)) (fun _ _ _ h => h) (Or.inl ⟨by rfl, ?_⟩) ?_ ?_
                  rotate_left
                  ·intro w'
                   go_simp
                   with_reducible rfl
                  rotate_left
                  ·simp only [Act.put, List.setIfInBounds_toArray, List.set_cons_zero, List.set_cons_succ, i64_w, i32_w]
                   rfl
                  refine pure_ (i := 12) (N := some 135) (v := ?_) (a' := ?_) #[true, true, true, true, true, true, true, true, true, true, true, true, true, false, false, false] rfl rfl (any_of HT_.out (by kernel_rfl)) (fun _ _ _ h => h) (Or.inl ⟨by rfl, ?_⟩) ?_ ?_
                  rotate_left
                  ·intro w'
                   go_simp
                   with_reducible rfl
                  rotate_left
                  ·simp only [Act.put, List.setIfInBounds_toArray, List.set_cons_zero, List.set_cons_succ, i64_w, i32_w]
                   rfl
                  refine one_ (i := 13) (N := some 136) #[true, true, true, true, true, true, true, true, true, true, true, true, true, true, false, false] rfl rfl (one_of HT_.out (by kernel_rfl)) (by decide) (fun K hK => ?_)
                  refine goes_ Tryz.func23 (by kernel_rfl) rfl #[] (by rfl) rfl rfl lz ?_
                  with_reducible refine (platenlaw06_lives.calls kj53  t929 _ A83.out).mono ?_
                  rintro e w86 ⟨rfl, hb⟩
                  refine ⟨_, rfl, ?_⟩
                  replace BK910 := Aside0.mk (blk_below (g := gb910) (o := .cells #[.bool a2_0, .bool false, .bool a2_2, .bool a2_3, .bool a2_4, .int .i64 a2_5, .int .i64 a2_6, .int .i32 a2_7] 26 (0, 0)) bk hb)
                  replace BK914 := Aside0.mk (blk_below (g := gb914) (o := .cells #[.bool a2_0, .bool false, .bool a2_2, .bool a2_3, .bool a2_4, .int .i64 (-1), .int .i64 a2_6, .int .i32 a2_7] 26 (0, 0)) bk hb)
                  replace HB := Aside0.mk (below_step bz hb)
                  (try clear hb)
                  (try clear hb2)
                  (try clear hk)
                  (try clear hi)
                  refine hK.out _ _ trivial (fun hHeld => ?_)
                  clear hK K
                  refine norm_ (a' := ?_) ?_ ?_
                  rotate_left
                  ·show Act.put _ (some 136) _ = _
                   simp only [Act.put, List.setIfInBounds_toArray, List.set_cons_zero, List.set_cons_succ, i64_w, i32_w]
                   rfl
                  refine pure_ (i := 14) (N := some 137) (v := ?_) (a' := ?_) #[true, true, true, true, true, true, true, true, true, true, true, true, true, true, true, false] rfl rfl (any_of HT_.out (by kernel_rfl)) (fun _ _ _ h => h) (Or.inl ⟨by rfl, ?_⟩) ?_ ?_
                  rotate_left
                  ·intro w'
                   go_simp
                   with_reducible rfl
                  rotate_left
                  ·simp only [Act.put, List.setIfInBounds_toArray, List.set_cons_zero, List.set_cons_succ, i64_w, i32_w]
                   rfl
                  refine pure_ (i := 15) (N := some 6) (v := ?_) (a' := ?_) #[true, true, true, true, true, true, true, true, true, true, true, true, true, true, true, true] rfl rfl (any_of HT_.out (by kernel_rfl)) (fun _ _ _ h => h) (Or.inl ⟨by rfl, ?_⟩) ?_ ?_
                  rotate_left
                  ·intro w'
                   go_simp
                   with_reducible rfl
                  rotate_left
                  ·simp only [Act.put, List.setIfInBounds_toArray, List.set_cons_zero, List.set_cons_succ, i64_w, i32_w]
                   rfl
                  refine done_ (done_of HT_.out (by kernel_rfl)) ?_
                  try go_wp2
                  go_ret
                  exact ⟨by first | rfl | (simp [errW_none, errW_some] <;> rfl) | (simp only [← hji23, ← hji24]; first | rfl | (simp [errW_none, errW_some] <;> rfl)) | (simp [*, errW_none, errW_some] <;> rfl), bz⟩
                 ·replace H := hN H c82
                  have c82b0 : (t912.toList == (t928 ++ t915).toList) = false := beq_eq_false_iff_ne.mpr c82
                  have c82b1 : (t912.toList != (t928 ++ t915).toList) = true := bne_iff_ne.mpr c82
                  obtain rfl := Option.some.inj H
                  try go_wp2
                  replace BK910 := Aside0.mk (blk_drew BK910.out)
                  replace BK914 := Aside0.mk (blk_drew BK914.out)
                  replace HB := Aside0.mk (below_drew1 HB.out)
                  refine start_ (n := 16) (S := fun w' => True) (ds := []) #[false, false, false, false, false, false, false, false, false, false, false, false, false, false, false, false] (by kernel_rfl) rfl rfl trivial (fun hHeld => ?_); refine with_tabW platenlaw06_FloatsWide.tab21 platenlaw06_FloatsWide.bits21 (fun HT_ HW_ => ?_)
                  generalize wc.drew = w87 at BK910 BK914 HB hHeld ⊢
                  refine pure_ (i := 0) (N := some 123) (v := ?_) (a' := ?_) #[true, false, false, false, false, false, false, false, false, false, false, false, false, false, false, false] rfl rfl (any_of HT_.out (by kernel_rfl)) (fun _ _ _ h => h) (Or.inl ⟨by rfl, ?_⟩) ?_ ?_
                  rotate_left
                  ·intro w'
                   go_simp
                   with_reducible rfl
                  rotate_left
                  ·simp only [Act.put, List.setIfInBounds_toArray, List.set_cons_zero, List.set_cons_succ, i64_w, i32_w]
                   rfl
                  refine pure_ (i := 1) (N := some 124) (v := ?_) (a' := ?_) #[true, true, false, false, false, false, false, false, false, false, false, false, false, false, false, false] rfl rfl (any_of HT_.out (by kernel_rfl)) (fun _ _ _ h => h) (Or.inl ⟨by rfl, ?_⟩) ?_ ?_
                  rotate_left
                  ·intro w'
                   go_simp
                   with_reducible rfl
                  rotate_left
                  ·simp only [Act.put, List.setIfInBounds_toArray, List.set_cons_zero, List.set_cons_succ, i64_w, i32_w]
                   rfl
                  refine pure_ (i := 2) (N := some 125) (v := ?_) (a' := ?_) #[true, true, true, false, false, false, false, false, false, false, false, false, false, false, false, false] rfl rfl (any_of HT_.out (by kernel_rfl)) (fun _ _ _ h => h) (Or.inl ⟨by rfl, ?_⟩) ?_ ?_
                  rotate_left
                  ·intro w'
                   go_simp
                   with_reducible rfl
                  rotate_left
                  ·simp only [Act.put, List.setIfInBounds_toArray, List.set_cons_zero, List.set_cons_succ, i64_w, i32_w]
                   rfl
                  refine pure_ (i := 3) (N := some 126) (v := ?_) (a' := ?_) #[true, true, true, true, false, false, false, false, false, false, false, false, false, false, false, false] rfl rfl (any_of HT_.out (by kernel_rfl)) (fun _ _ _ h => h) (Or.inl ⟨by rfl, ?_⟩) ?_ ?_
                  rotate_left
                  ·intro w'
                   go_simp
                   with_reducible rfl
                  rotate_left
                  ·simp only [Act.put, List.setIfInBounds_toArray, List.set_cons_zero, List.set_cons_succ, i64_w, i32_w]
                   rfl
                  refine pure_ (i := 4) (N := some 127) (v := ?_) (a' := ?_) #[true, true, true, true, true, false, false, false, false, false, false, false, false, false, false, false] rfl rfl (any_of HT_.out (by kernel_rfl)) (fun _ _ _ h => h) (Or.inl ⟨by rfl, ?_⟩) ?_ ?_
                  rotate_left
                  ·intro w'
                   go_simp
                   with_reducible rfl
                  rotate_left
                  ·simp only [Act.put, List.setIfInBounds_toArray, List.set_cons_zero, List.set_cons_succ, i64_w, i32_w]
                   rfl
                  refine pure_ (i := 7) (N := some 130) (v := ?_) (a' := ?_) #[true, true, true, true, true, false, false, true, false, false, false, false, false, false, false, false] rfl rfl (any_of HT_.out (by kernel_rfl)) (fun _ _ _ h => h) (Or.inl ⟨by rfl, ?_⟩) ?_ ?_
                  rotate_left
                  ·intro w'
                   go_simp
                   with_reducible rfl
                  rotate_left
                  ·simp only [Act.put, List.setIfInBounds_toArray, List.set_cons_zero, List.set_cons_succ, i64_w, i32_w]
                   rfl
                  refine pure_ (i := 8) (N := some 131) (v := ?_) (a' := ?_) #[true, true, true, true, true, false, false, true, true, false, false, false, false, false, false, false] rfl rfl (any_of HT_.out (by kernel_rfl)) (fun _ _ _ h => h) (Or.inl ⟨by rfl, ?_⟩) ?_ ?_
                  rotate_left
                  ·intro w'
                   go_simp
                   with_reducible rfl
                  rotate_left
                  ·simp only [Act.put, List.setIfInBounds_toArray, List.set_cons_zero, List.set_cons_succ, i64_w, i32_w]
                   rfl
                  refine pure_ (i := 9) (N := some 132) (v := ?_) (a' := ?_) #[true, true, true, true, true, false, false, true, true, true, false, false, false, false, false, false] rfl rfl (any_of HT_.out (by kernel_rfl)) (fun _ _ _ h => h) (Or.inl ⟨by rfl, ?_⟩) ?_ ?_
                  rotate_left
                  ·intro w'
                   go_simp
                   with_reducible rfl
                  rotate_left
                  ·simp only [Act.put, List.setIfInBounds_toArray, List.set_cons_zero, List.set_cons_succ, i64_w, i32_w]
                   rfl
                  refine one_ (i := 5) (N := some 128) #[true, true, true, true, true, true, false, true, true, true, false, false, false, false, false, false] rfl rfl (one_of HT_.out (by kernel_rfl)) (by decide) (fun K hK => ?_)
                  refine goes_ Tryz.func27 (by kernel_rfl) rfl #[.int .u8 48, .int .i64 (wrap64 ((t912.size : Int) - (t915.size : Int)))] (by rfl) rfl rfl lz ?_
                  with_reducible refine (buf_Fill.calls 48 (wrap64 ((t912.size : Int) - (t915.size : Int))) t928 _ A77.out).mono ?_
                  rintro e w88 ⟨rfl, hb⟩
                  refine ⟨_, rfl, ?_⟩
                  replace BK910 := Aside0.mk (blk_below (g := gb910) (o := .cells #[.bool a2_0, .bool false, .bool a2_2, .bool a2_3, .bool a2_4, .int .i64 a2_5, .int .i64 a2_6, .int .i32 a2_7] 26 (0, 0)) bk hb)
                  replace BK914 := Aside0.mk (blk_below (g := gb914) (o := .cells #[.bool a2_0, .bool false, .bool a2_2, .bool a2_3, .bool a2_4, .int .i64 (-1), .int .i64 a2_6, .int .i32 a2_7] 26 (0, 0)) bk hb)
                  replace HB := Aside0.mk (below_step bz hb)
                  (try clear hb)
                  (try clear hb2)
                  (try clear hk)
                  (try clear hi)
                  refine hK.out _ _ trivial (fun hHeld => ?_)
                  clear hK K
                  refine norm_ (a' := ?_) ?_ ?_
                  rotate_left
                  ·show Act.put _ (some 128) _ = _
                   simp only [Act.put, List.setIfInBounds_toArray, List.set_cons_zero, List.set_cons_succ, i64_w, i32_w]
                   rfl
                  refine pure_ (i := 6) (N := some 129) (v := ?_) (a' := ?_) #[true, true, true, true, true, true, true, true, true, true, false, false, false, false, false, false] rfl rfl (any_of HT_.out (by kernel_rfl)) (fun _ _ _ h => h) (Or.inl ⟨by rfl, ?_⟩) ?_ ?_
                  rotate_left
                  ·intro w'
                   go_simp
                   with_reducible rfl
                  rotate_left
                  ·simp only [Act.put, List.setIfInBounds_toArray, List.set_cons_zero, List.set_cons_succ, i64_w, i32_w]
                   rfl
                  refine pure_ (i := 10) (N := some 133) (v := ?_) (a' := ?_) #[true, true, true, true, true, true, true, true, true, true, true, false, false, false, false, false] rfl rfl (any_of HT_.out (by kernel_rfl)) (fun _ _ _ h => h) (Or.inl ⟨by rfl, ?_⟩) ?_ ?_
                  rotate_left
                  ·intro w'
                   go_simp
                   with_reducible rfl
                  rotate_left
                  ·simp only [Act.put, List.setIfInBounds_toArray, List.set_cons_zero, List.set_cons_succ, i64_w, i32_w]
                   rfl
                  refine pure_ (i := 11) (N := some 134) (v := ?_) (a' := ?_) #[true, true, true, true, true, true, true, true, true, true, true, true, false, false, false, false] rfl rfl (any_of HT_.out (by kernel_rfl)) (fun _ _ _ h => h) (Or.inl ⟨by rfl, ?_⟩) ?_ ?_
                  rotate_left
                  ·intro w'
                   go_simp
                   with_reducible rfl
                  rotate_left
                  ·simp only [Act.put, List.setIfInBounds_toArray, List.set_cons_zero, List.set_cons_succ, i64_w, i32_w]
                   rfl
                  refine pure_ (i := 12) (N := some 135) (v := ?_) (a' := ?_) #[true, true, true, true, true, true, true, true, true, true, true, true, true, false, false, false] rfl rfl (any_of HT_.out (by kernel_rfl)) (fun _ _ _ h => h) (Or.inl ⟨by rfl, ?_⟩) ?_ ?_
                  rotate_left
                  ·intro w'
                   go_simp
                   with_reducible rfl
                  rotate_left
                  ·simp only [Act.put, List.setIfInBounds_toArray, List.set_cons_zero, List.set_cons_succ, i64_w, i32_w]
                   rfl
                  refine pure_ (i := 13) (N := some 136) (v := undef) (a' := ?_) #[true, true, true, true, true, true, true, true, true, true, true, true, true, true, false, false] rfl rfl (any_of HT_.out (by kernel_rfl)) (fun _ _ _ h => h) (Or.inr ⟨by rfl, rfl⟩) ?_ ?_
                  rotate_left
                  ·simp only [Act.put, List.setIfInBounds_toArray, List.set_cons_zero, List.set_cons_succ, i64_w, i32_w]
                   rfl
                  refine pure_ (i := 14) (N := some 137) (v := ?_) (a' := ?_) #[true, true, true, true, true, true, true, true, true, true, true, true, true, true, true, false] rfl rfl (any_of HT_.out (by kernel_rfl)) (fun _ _ _ h => h) (Or.inl ⟨by rfl, ?_⟩) ?_ ?_
                  rotate_left
                  ·intro w'
                   go_simp
                   with_reducible rfl
                  rotate_left
                  ·simp only [Act.put, List.setIfInBounds_toArray, List.set_cons_zero, List.set_cons_succ, i64_w, i32_w]
                   rfl
                  refine pure_ (i := 15) (N := some 6) (v := ?_) (a' := ?_) #[true, true, true, true, true, true, true, true, true, true, true, true, true, true, true, true] rfl rfl (any_of HT_.out (by kernel_rfl)) (fun _ _ _ h => h) (Or.inl ⟨by rfl, ?_⟩) ?_ ?_
                  rotate_left
                  ·intro w'
                   go_simp
                   with_reducible rfl
                  rotate_left
                  ·simp only [Act.put, List.setIfInBounds_toArray, List.set_cons_zero, List.set_cons_succ, i64_w, i32_w]
                   rfl
                  refine done_ (done_of HT_.out (by kernel_rfl)) ?_
                  try go_wp2
                  go_ret
                  exact ⟨by first | rfl | (simp [errW_none, errW_some] <;> rfl) | (simp only [← hji23, ← hji24]; first | rfl | (simp [errW_none, errW_some] <;> rfl)) | (simp [*, errW_none, errW_some] <;> rfl), bz⟩
                ·replace H := hN H c81
                 exact absurd H (by simp)
               ·replace H := hN H c78
                exact absurd H (by simp)
              ·replace H := hN H c76
               exact absurd H (by simp)
             ·replace H := hN H c75
              exact absurd H (by simp)
    ·replace H := hN H c25
     obtain ⟨c25b0, c25b1⟩ := eF c25
     obtain rfl := Option.some.inj H
     have hnb89 := NB910_914.out
     have hnc89 := NB914_910.out
     obtain ⟨hcz90_0, hcz90_1, hcz90_2, hcz90_3, hcz90_4, hcz90_5, hcz90_6, hcz90_7, hfz90_0, hfz90_1, hfz90_2, hfz90_3, hfz90_4, hfz90_5, hfz90_6, hfz90_7⟩ := cz8 (W := wc) BK910
     go_wp2
     go_ret
     exact ⟨by first | rfl | (simp [errW_none, errW_some] <;> rfl) | (simp only [← hji23, ← hji24]; first | rfl | (simp [errW_none, errW_some] <;> rfl)) | (simp [*, errW_none, errW_some] <;> rfl), bz⟩
end Go.Proofs.YtecpgdfnamkfdaaGreatDoor.Fn
end
section
namespace Go.Proofs.YtecpgdfnamkfdaaGreatDoor.Pure
open Go.RowKit Go.Proofs.YtecpgdfnamkfdaaGreatDoorW.PrintWords Go.Proofs.YtecpgdfnamkfdaaGreatDoorW.PrintLast Go.Proofs.YtecpgdfnamkfdaaGreatDoorW.PrintMore Go.Proofs.YtecpgdfnamkfdaaGreatDoor.Fn
set_option linter.unusedVariables false
set_option linter.unusedSimpArgs false
def sr (wide : Bool) (a : Nat) (plus sharp space zero : Bool) (prec v : Int) : List UInt8 × List UInt8 × Bool :=
  if bareN wide a < ii wide then (signL (a / tt wide % 2 == 1) 0 plus space, restL wide (bareN wide a) (fM (ff wide) (bareN wide a)) ((fE (ff wide) (bareN wide a) : Int) - (ll wide : Int)) (clamp prec) v sharp, zero)
  else if bareN wide a = ii wide then (signL (a / tt wide % 2 == 1) 1 plus space, [73, 110, 102], false)
  else (signL (a / tt wide % 2 == 1) 2 plus space, [78, 97, 78], false)
theorem float_sr (wide : Bool) (a : Nat) (plus minus sharp space zero : Bool) (wid prec : Int) {v : Int} (hv : codeV v ≠ 0) :
    floatS wide a plus minus sharp space zero wid prec v = (S (endL (sr wide a plus sharp space zero prec v).1 (sr wide a plus sharp space zero prec v).2.1 minus (sr wide a plus sharp space zero prec v).2.2 wid), true) := by
  unfold floatS sr
  rw [if_neg hv]
  split
  · rfl
  · split <;> rfl
theorem sr_ok (wide : Bool) (a : Nat) (plus sharp space zero : Bool) (prec v : Int) :
    ((sr wide a plus sharp space zero prec v).1.length ≤ 1 ∧ Asc (sr wide a plus sharp space zero prec v).1) ∧ Fit (sr wide a plus sharp space zero prec v).2.1 ∧
      ((sr wide a plus sharp space zero prec v).1 = [] ∨ (sr wide a plus sharp space zero prec v).1 = [45] ∨ (sr wide a plus sharp space zero prec v).1 = [43] ∨ (sr wide a plus sharp space zero prec v).1 = [32]) ∧
      (bareN wide a < ii wide → (sr wide a plus sharp space zero prec v).2.2 = zero ∧ HeadD (sr wide a plus sharp space zero prec v).2.1) ∧ (¬ bareN wide a < ii wide → (sr wide a plus sharp space zero prec v).2.2 = false) := by
  have hsg : ∀ (n : Bool) (k : Int), signL n k plus space = [] ∨ signL n k plus space = [45] ∨ signL n k plus space = [43] ∨ signL n k plus space = [32] := by
    intro n k
    unfold signL
    repeat' split
    all_goals simp
  unfold sr
  by_cases c : bareN wide a < ii wide
  · rw [if_pos c]
    have hb := fEl wide (Nat.le_of_lt c)
    have hb2 := fE_le wide (Nat.le_of_lt c)
    exact ⟨signL_ok _ _ _ _, rest_fit wide c (by omega) (by omega) (clamp_ok prec) v sharp, hsg _ _, fun _ => ⟨rfl, rest_head wide c (by omega) (by omega) (clamp_ok prec) v sharp⟩, fun h => absurd c h⟩
  · rw [if_neg c]
    split
    · exact ⟨signL_ok _ _ _ _, (⟨by decide, by decide⟩ : Fit [73, 110, 102]), hsg _ _, fun h => absurd h c, fun _ => rfl⟩
    · exact ⟨signL_ok _ _ _ _, (⟨by decide, by decide⟩ : Fit [78, 97, 78]), hsg _ _, fun h => absurd h c, fun _ => rfl⟩
theorem fill_at (c : UInt8) {n : Int} (h : n ≤ 1000) : buf_Fill.f (c.toNat : Int) n = some (S (List.replicate n.toNat c)) := by
  rw [fill_eq, show min n 1000 = n by omega]
theorem end_len (s r : List UInt8) (minus zero : Bool) (wid : Int) : ((endL s r minus zero wid).length : Int) = max ((s ++ r).length : Int) (max 0 (min wid 1000)) := by
  have hp : ∀ l : List UInt8, ((padL l minus false wid).length : Int) = max (l.length : Int) (max 0 (min wid 1000)) := by
    intro l
    unfold padL
    cases minus <;> simp <;> omega
  unfold endL
  rw [hp]
  split
  · simp; omega
  · simp
theorem end_blank (s r : List UInt8) (minus zero : Bool) (wid : Int) (h : (zero && !minus) = false) : endL s r minus zero wid = if minus then (s ++ r) ++ List.replicate (max 0 (min wid 1000) - (s ++ r).length).toNat 32 else List.replicate (max 0 (min wid 1000) - (s ++ r).length).toNat 32 ++ (s ++ r) := by
  unfold endL padL
  rw [h]
  simp
theorem end_zero (s r : List UInt8) (wid : Int) : endL s r false true wid = s ++ (List.replicate (max 0 (min wid 1000) - (s ++ r).length).toNat 48 ++ r) := by
  have e : (max 0 (min wid 1000) - (s.length : Int) - (r.length : Int)).toNat = (max 0 (min wid 1000) - ((s ++ r).length : Int)).toNat := by rw [List.length_append]; omega
  unfold endL padL
  rw [e]
  have h0 : (max 0 (min wid 1000) - ((s ++ (List.replicate (max 0 (min wid 1000) - ((s ++ r).length : Int)).toNat 48 ++ r)).length : Int)).toNat = 0 := by
    simp only [List.length_append, List.length_replicate]
    omega
  simp only [Bool.not_false, Bool.and_true, if_true, Bool.false_eq_true, if_false]
  rw [h0]
  rfl
theorem S_same {a b : List UInt8} (h : a = b) : (S a).toList = (S b).toList := by rw [h]
theorem FloatsWide : ∀ (a0 : Int) (a1 : Bool) (a2_0 : Bool) (a2_1 : Bool) (a2_2 : Bool) (a2_3 : Bool) (a2_4 : Bool) (a2_5 : Int) (a2_6 : Int) (a2_7 : Int), (Lit.int .u64 a0).wf = true → (Lit.int .i64 a2_5).wf = true → (Lit.int .i64 a2_6).wf = true → (Lit.int .i32 a2_7).wf = true → ∃ k, platenlaw06_FloatsWide.f k a0 a1 a2_0 a2_1 a2_2 a2_3 a2_4 a2_5 a2_6 a2_7 = some true := by
  intro a0 wide plus minus sharp space zero wid prec v h0 _ _ _
  obtain ⟨a, rfl, ha⟩ := wf_u64 h0
  refine Ev.rounds (g := fun k => platenlaw06_FloatsWide.f k (a : Int) wide plus minus sharp space zero wid prec v) ?_
  unfold platenlaw06_FloatsWide.f
  rw [sized6]
  simp only [Option.bind_some]
  have f1 := float_ev wide ha plus minus sharp space zero wid prec v
  have f2 := float_ev wide ha plus minus sharp space zero (-1) prec v
  by_cases hv : codeV v = 0
  · have e : ∀ w : Int, floatS wide a plus minus sharp space zero w prec v = (⟨#[]⟩, false) := by
      intro w
      unfold floatS
      rw [if_pos hv]
    rw [e] at f1 f2
    refine Ev.bind f1 (Ev.bind f2 ?_)
    refine Ev.congr (fun k => if_neg (by simp)) ?_
    refine Ev.step (fun k => by simp only [platenlaw06_FloatsWide.j0]; rfl) ?_
    have he : (⟨#[]⟩ : ByteArray).toList = ([] : List UInt8) := (empty_iff []).2 rfl
    refine Ev.congr (fun k => if_pos (by first | rfl | trivial)) ?_
    refine Ev.congr (fun k => if_pos (by first | rfl | trivial)) ?_
    refine Ev.congr (fun k => if_pos he) ?_
    exact Ev.congr (fun k => if_pos he) livesEnd6
  · rw [float_sr wide a plus minus sharp space zero _ prec hv] at f1 f2
    rw [end_none _ _ _ _ (by decide)] at f2
    obtain ⟨g1, g2, g3, g4, g5⟩ := sr_ok wide a plus sharp space zero prec v
    have hk : (partsS wide a).2.2.2 = 0 ↔ bareN wide a < ii wide := by
      unfold partsS
      by_cases c : bareN wide a < ii wide
      · rw [if_pos c]; exact ⟨fun _ => c, fun _ => rfl⟩
      · rw [if_neg c]
        dsimp only
        refine ⟨fun h => absurd h ?_, fun h => absurd h c⟩
        split <;> decide
    generalize sr wide a plus sharp space zero prec v = q at *
    obtain ⟨s, r, z⟩ := q
    dsimp only at f1 f2 g1 g2 g3 g4 g5
    have hl := end_len s r minus z wid
    have hrl := g2.2
    have hsl := g1.1
    have hT : (s ++ r).length ≤ 100001 := by rw [List.length_append]; omega
    refine Ev.bind f1 (Ev.bind f2 ?_)
    refine Ev.congr (fun k => if_pos rfl) ?_
    refine Ev.step (fun k => by simp only [platenlaw06_FloatsWide.j0]; rfl) ?_
    refine Ev.congr (fun k => if_neg (by simp)) ?_
    refine Ev.congr (fun k => if_pos (by rw [size_S, size_S, hl, mx_eq, mn_eq]; omega)) ?_
    rw [parts_eq wide a ha]
    simp only [Option.bind_some]
    have hlk : wrap64 (((S (endL s r minus z wid)).size : Int) - ((S (s ++ r)).size : Int)) = max 0 (max 0 (min wid 1000) - ((s ++ r).length : Int)) := by
      rw [size_S, size_S, hl, w64 (by omega) (by omega)]
      omega
    rw [hlk]
    have hn : (max 0 (max 0 (min wid 1000) - ((s ++ r).length : Int))).toNat = (max 0 (min wid 1000) - ((s ++ r).length : Int)).toNat := by omega
    have hf32 := fill_at 32 (n := max 0 (max 0 (min wid 1000) - ((s ++ r).length : Int))) (by omega)
    have hf48 := fill_at 48 (n := max 0 (max 0 (min wid 1000) - ((s ++ r).length : Int))) (by omega)
    rw [hn] at hf32 hf48
    rw [show (((32 : UInt8).toNat : Nat) : Int) = 32 from rfl] at hf32
    rw [show (((48 : UInt8).toNat : Nat) : Int) = 48 from rfl] at hf48
    have hr : (max 0 (min wid 1000) - ((s ++ r).length : Int)).toNat ≤ 1000 := by omega
    have blanks : (z && !minus) = false → minus = false → Ev (fun k => platenlaw06_FloatsWide.j1 k (S (endL s r minus z wid)) (S (s ++ r)) (max 0 (max 0 (min wid 1000) - ((s ++ r).length : Int))) true) true := by
      intro hz hm
      refine Ev.step (fun k => by simp only [platenlaw06_FloatsWide.j1]; rfl) ?_
      refine Ev.congr (fun k => if_pos trivial) ?_
      rw [hf32]
      simp only [Option.bind_some]
      refine Ev.congr (fun k => if_pos (by rw [size_S, size_S, List.length_replicate]; omega)) ?_
      refine Ev.congr (fun k => if_pos (by rw [S_app2]; refine S_same ?_; rw [end_blank _ _ _ _ _ hz, hm, if_neg (by simp)])) ?_
      exact livesEnd6
    cases minus with
    | true =>
      refine Ev.congr (fun k => if_pos rfl) ?_
      rw [hf32]
      simp only [Option.bind_some]
      refine Ev.congr (fun k => if_pos (by rw [size_S, size_S, List.length_replicate]; omega)) ?_
      refine Ev.congr (fun k => if_pos (by rw [S_app2]; refine S_same ?_; rw [end_blank _ _ _ _ _ (by simp), if_pos rfl])) ?_
      exact livesEnd6
    | false =>
      refine Ev.congr (fun k => if_neg (by simp)) ?_
      by_cases cz : bareN wide a < ii wide
      · obtain ⟨rfl, hh⟩ := g4 cz
        rw [show ((partsS wide a).2.2.2 != 0) = false by rw [hk.2 cz]; rfl]
        cases z with
        | false =>
          refine Ev.congr (fun k => if_neg (by simp)) ?_
          exact blanks rfl rfl
        | true =>
          refine Ev.congr (fun k => if_pos rfl) ?_
          refine Ev.step (fun k => by simp only [platenlaw06_FloatsWide.j1]; rfl) ?_
          refine Ev.congr (fun k => if_neg (by simp)) ?_
          obtain ⟨c, t, rfl, hc1, hc2⟩ := hh
          have hne : s ++ c :: t ≠ [] := by simp
          refine Ev.congr (fun k => if_neg (fun e => hne ((empty_iff _).1 e))) ?_
          refine Ev.congr (fun k => if_pos (by rw [size_S]; simp; omega)) ?_
          have fin : ∀ n : Nat, n = s.length → n ≤ 1 → Ev (fun k => if 0 ≤ (n : Int) then (if (n : Int) ≤ ((S (s ++ c :: t)).size : Int) then ((buf_Fill.f 48 (max 0 (max 0 (min wid 1000) - ((s ++ c :: t).length : Int)))).bind fun t928 => (if ((S (s ++ c :: t)).extract 0 (n : Int).toNat).size + t928.size ≤ 9223372036854775807 then (if (((S (s ++ c :: t)).extract 0 (n : Int).toNat) ++ t928).size + ((S (s ++ c :: t)).extract (n : Int).toNat (S (s ++ c :: t)).size).size ≤ 9223372036854775807 then (if (S (endL s (c :: t) false true wid)).toList = ((((S (s ++ c :: t)).extract 0 (n : Int).toNat) ++ t928) ++ ((S (s ++ c :: t)).extract (n : Int).toNat (S (s ++ c :: t)).size)).toList then ((platenlaw06_lives.f k).bind fun t929 => (some t929)) else (some false)) else (none)) else (none))) else (none)) else (none)) true := by
            intro n hns hn1
            subst hns
            refine Ev.congr (fun k => if_pos (by omega)) ?_
            refine Ev.congr (fun k => if_pos (by rw [size_S, List.length_append]; omega)) ?_
            rw [hf48]
            simp only [Option.bind_some]
            rw [Int.toNat_natCast, S_take, S_drop2, List.take_left', List.drop_left']
            · rw [S_app2, S_app2]
              have hct : (c :: t).length ≤ 100000 := hrl
              refine Ev.congr (fun k => if_pos (by rw [size_S, size_S, List.length_replicate]; omega)) ?_
              refine Ev.congr (fun k => if_pos (by rw [size_S, size_S, List.length_append, List.length_replicate]; omega)) ?_
              refine Ev.congr (fun k => if_pos (S_same (by rw [end_zero, List.append_assoc]))) ?_
              exact livesEnd6
            · rfl
            · rfl
          have hb0 : bt (S (s ++ c :: t)) 0 = (((s ++ c :: t)[0]'(by simp; omega)).toNat : Int) := by
            have := bt_L (S (s ++ c :: t)) 0 (by rw [size_S]; simp; omega)
            exact this
          have j2 : ∀ u : Bool, u = decide (s ≠ []) → Ev (fun k => platenlaw06_FloatsWide.j2 k (S (endL s (c :: t) false true wid)) (S (s ++ c :: t)) (max 0 (max 0 (min wid 1000) - ((s ++ c :: t).length : Int))) 0 u) true := by
            intro u hu
            refine Ev.step (fun k => by simp only [platenlaw06_FloatsWide.j2]; rfl) ?_
            by_cases cs : s = []
            · have : u = false := by rw [hu]; simp [cs]
              subst this
              refine Ev.congr (fun k => if_neg (by simp)) ?_
              exact fin 0 (by rw [cs]; rfl) (by decide)
            · have : u = true := by rw [hu]; simp [cs]
              subst this
              refine Ev.congr (fun k => if_pos rfl) ?_
              have h1 : s.length = 1 := by
                have := List.length_pos_iff.2 cs
                omega
              exact fin 1 h1.symm (Nat.le_refl _)
          rcases g3 with e | e | e | e
          · have hb1 : bt (S (s ++ c :: t)) 0 = (c.toNat : Int) := by rw [hb0]; subst e; rfl
            rw [hb1]
            refine Ev.congr (fun k => if_neg (by omega)) ?_
            refine Ev.congr (fun k => if_neg (by omega)) ?_
            refine j2 _ ?_
            rw [beq_eq_false_iff_ne.mpr (show ¬ (c.toNat : Int) = 32 by omega), e]
            rfl
          · have hb1 : bt (S (s ++ c :: t)) 0 = 45 := by rw [hb0]; subst e; rfl
            rw [hb1]
            refine Ev.congr (fun k => if_pos rfl) ?_
            exact j2 _ (by rw [e]; rfl)
          · have hb1 : bt (S (s ++ c :: t)) 0 = 43 := by rw [hb0]; subst e; rfl
            rw [hb1]
            refine Ev.congr (fun k => if_neg (by decide)) ?_
            refine Ev.congr (fun k => if_pos rfl) ?_
            exact j2 _ (by rw [e]; rfl)
          · have hb1 : bt (S (s ++ c :: t)) 0 = 32 := by rw [hb0]; subst e; rfl
            rw [hb1]
            refine Ev.congr (fun k => if_neg (by decide)) ?_
            refine Ev.congr (fun k => if_neg (by decide)) ?_
            exact j2 _ (by rw [e]; rfl)
      · have hz := g5 cz
        have hnk : ((partsS wide a).2.2.2 != 0) = true := bne_iff_ne.mpr (fun h => cz (hk.1 h))
        rw [hnk]
        cases zero with
        | true =>
          refine Ev.congr (fun k => if_pos rfl) ?_
          exact blanks (by rw [hz]; rfl) rfl
        | false =>
          refine Ev.congr (fun k => if_neg (by simp)) ?_
          exact blanks (by rw [hz]; rfl) rfl
end Go.Proofs.YtecpgdfnamkfdaaGreatDoor.Pure
end
