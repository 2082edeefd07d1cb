/- The law FloatsHexBack: the walks through its functions and its plain law (part 7). Own texts and the kit's printed words for this seat, without what the law does not use: put together by merge.py (of this work). -/
import Derived.Test.YtecpgdfnamkfdaaGreatDoorMFloatsHexBack6
import Derived.Handy
section
namespace Go.Proofs.YtecpgdfnamkfdaaGreatDoor.Pure
open Go.RowKit Go.Proofs.YtecpgdfnamkfdaaGreatDoorW.PrintWords Go.Proofs.YtecpgdfnamkfdaaGreatDoorW.PrintLast Go.Proofs.YtecpgdfnamkfdaaGreatDoorW.PrintMore Go.Proofs.YtecpgdfnamkfdaaGreatDoor.Fn
set_option linter.unusedVariables false
set_option linter.unusedSimpArgs false
def codeV (v : Int) : Int := if v = 101 ∨ v = 69 then 1 else if v = 102 ∨ v = 70 then 2 else if v = 103 ∨ v = 71 ∨ v = 118 then 3 else if v = 98 then 4 else if v = 120 ∨ v = 88 then 5 else 0
theorem chosen_at (v : Int) (k : Nat) : floats_chosen.f (k + 3) v = some (codeV v) := by
  unfold codeV floats_chosen.f
  simp only [floats_chosen.j0, floats_chosen.j1, floats_chosen.j2]
  by_cases d1 : v = 101
  · subst d1; rfl
  by_cases d2 : v = 69
  · subst d2; rfl
  by_cases d3 : v = 102
  · subst d3; rfl
  by_cases d4 : v = 70
  · subst d4; rfl
  by_cases d5 : v = 103
  · subst d5; rfl
  by_cases d6 : v = 71
  · subst d6; rfl
  by_cases d7 : v = 118
  · subst d7; rfl
  by_cases d8 : v = 98
  · subst d8; rfl
  by_cases d9 : v = 120
  · subst d9; rfl
  by_cases d10 : v = 88
  · subst d10; rfl
  simp [d1, d2, d3, d4, d5, d6, d7, d8, d9, d10]
theorem chosen_ev (v : Int) : Ev (fun k => floats_chosen.f k v) (codeV v) :=
  ⟨3, fun k hk => by obtain ⟨j, rfl⟩ : ∃ j, k = j + 3 := ⟨k - 3, by omega⟩; exact chosen_at v j⟩
theorem codeV_le (v : Int) : 0 ≤ codeV v ∧ codeV v ≤ 5 := by
  unfold codeV
  repeat' split
  all_goals decide
def signL (neg : Bool) (kind : Int) (plus space : Bool) : List UInt8 := if neg = true ∧ kind ≠ 2 then [45] else if plus then [43] else if space then [32] else if kind = 1 then [43] else []
theorem signL_ok (neg : Bool) (kind : Int) (plus space : Bool) : (signL neg kind plus space).length ≤ 1 ∧ Asc (signL neg kind plus space) := by
  unfold signL
  repeat' split
  all_goals exact ⟨by decide, by decide⟩
def clamp (prec : Int) : Int := max (-1) (min prec 1000)
theorem clamp_ok (prec : Int) : -1 ≤ clamp prec ∧ clamp prec ≤ 1000 := by unfold clamp; omega
def restL (wide : Bool) (p m : Nat) (e prec v : Int) (sharp : Bool) : List UInt8 :=
  if codeV v = 1 then scaledL (sharp && v != 118) (bigV v) (exD m e) (six prec)
  else if codeV v = 2 then fixedL (sharp && v != 118) (exD m e) (six prec)
  else if codeV v = 3 then genOf wide p m e prec (sharp && v != 118) (bigV v)
  else if codeV v = 4 then binL m e
  else hexL m e prec (sharp && v != 118) (v == 88)
def Fit (l : List UInt8) : Prop := Asc l ∧ l.length ≤ 100000
theorem sci_fit {l : List UInt8} (h : Asc l) (hl : l.length ≤ 50000) (dot big : Bool) (e : Int) : Fit (sciL dot big l e) := by
  refine ⟨sciL_asc h dot big e, ?_⟩
  have h1 := ptL_len dot (l.take 1) (l.drop 1)
  have h2 := powL_len (eMark big) (e := e) (least := 2) (by decide)
  have hm : (eMark big).length = 1 := by cases big <;> rfl
  rw [List.length_take, List.length_drop] at h1
  unfold sciL
  rw [List.length_append]
  omega
theorem around_fit {l : List UInt8} (h : Asc l) (hl : l.length ≤ 20000) (dot : Bool) {p : Int} (hp : -20000 ≤ p ∧ p ≤ 20000) : Fit (aroundL dot l p) := by
  refine ⟨aroundL_asc h dot p, ?_⟩
  have hf := fillL_len l p
  unfold aroundL
  split
  · have h1 := ptL_len dot [48] (zsL (-p).toNat ++ l)
    rw [List.length_append, zsL_len] at h1
    simp at h1
    omega
  · have h1 := ptL_len dot ((fillL l p).take p.toNat) ((fillL l p).drop p.toNat)
    rw [List.length_take, List.length_drop] at h1
    omega
theorem scaled_fit {v : List UInt8 × Int} (h : Near v) (dot big : Bool) {p : Int} (hp : 0 ≤ p ∧ p ≤ 1000) : Fit (scaledL dot big v p) := by
  have hb := round_bound h (p + 1)
  have hf := fillL_len (roundN v.1 v.2 (p + 1)).1 (p + 1)
  exact sci_fit (fillL_asc (round_form h.form (p + 1)).1.asc _) (by omega) dot big _
theorem fixed_fit {v : List UInt8 × Int} (h : Near v) (dot : Bool) {p : Int} (hp : 0 ≤ p ∧ p ≤ 1000) : Fit (fixedL dot v p) := by
  have hb := round_bound h (v.2 + p)
  have ha := (round_form h.form (v.2 + p)).1.asc
  unfold fixedL
  generalize roundN v.1 v.2 (v.2 + p) = d at *
  split
  · refine ⟨ptL_asc (by decide) (zsL_asc _) dot, ?_⟩
    have h1 := ptL_len dot [48] (zsL p.toNat)
    rw [zsL_len] at h1
    simp at h1
    omega
  · split
    · refine ⟨ptL_asc (by decide) (fillL_asc ((zsL_asc _).app ha) _) dot, ?_⟩
      have h1 := ptL_len dot [48] (fillL (zsL (-d.2).toNat ++ d.1) p)
      have hf := fillL_len (zsL (-d.2).toNat ++ d.1) p
      rw [List.length_append, zsL_len] at hf
      simp at h1
      omega
    · have hf := fillL_len d.1 (d.2 + p)
      exact around_fit (fillL_asc ha _) (by omega) dot (by omega)
theorem gen_fit {d : List UInt8 × Int} (ha : Asc d.1) (hd : d.1.length ≤ 2000 ∧ -4000 ≤ d.2 ∧ d.2 ≤ 1500) (dot big : Bool) {keep top : Int} (hk : 1 ≤ keep ∧ keep ≤ 1000) : Fit (genL dot big d keep top) := by
  have hfb := firstL_bound (d := d) hd.2
  unfold genL
  dsimp only
  have hl : Asc (if d.1 = [] then [48] else d.1) ∧ (if d.1 = [] then ([48] : List UInt8) else d.1).length ≤ 2000 := by
    split
    · exact ⟨by decide, by decide⟩
    · exact ⟨ha, hd.1⟩
  generalize (if d.1 = [] then ([48] : List UInt8) else d.1) = l at *
  have hm : Asc (if dot = true then fillL l keep else l) ∧ (if dot = true then fillL l keep else l).length ≤ 3000 := by
    have hf := fillL_len l keep
    split
    · exact ⟨fillL_asc hl.1 _, by omega⟩
    · exact ⟨hl.1, by omega⟩
  split
  · exact sci_fit hm.1 (by omega) dot big _
  · exact around_fit hm.1 (by omega) dot (by omega)
theorem shortL_ok (wide : Bool) {p : Nat} (hp : p < ii wide) : InForm (shortL wide p).1 (shortL wide p).2 ∧ (shortL wide p).1.length ≤ 2000 ∧ -4000 ≤ (shortL wide p).2 ∧ (shortL wide p).2 ≤ 1500 := by
  unfold shortL
  by_cases c : p = 0
  · rw [if_pos c]; exact ⟨⟨AllD.nil, fun c t e => (by cases e), rfl, fun _ => rfl⟩, by decide, by decide, by decide⟩
  · rw [if_neg c]
    obtain ⟨M, h1, h2, h3⟩ := short_spec wide p
    have hv := exV_val wide hp
    have hl := hv.len
    have hlo := hv.lo
    have hhi := hv.hi
    rcases best_some h2 with ⟨_, e⟩ | ⟨hn, u, hu, e, _⟩
    · rw [e]; exact ⟨hv.form, by omega, by omega, by omega⟩
    · have hc := cU_lt hv M hn
      have hu1 : u < 10 ^ (M + 1) := by
        rw [Nat.pow_succ]
        have : 1 ≤ 10 ^ M := Nat.pow_pos (by decide)
        rcases hu with hu | hu <;> omega
      have hb := decOf_bound hu1 (cE (exV wide p) M)
      rw [e]
      unfold cE at hb ⊢
      exact ⟨inForm_decOf _ _, by omega, by omega, by omega⟩
theorem genOf_fit (wide : Bool) {p : Nat} (hp : p < ii wide) {m : Nat} (hm : m < 18446744073709551616) {e : Int} (h : -1200 ≤ e ∧ e ≤ 1200) {prec : Int} (hq : -1 ≤ prec ∧ prec ≤ 1000) (dot big : Bool) : Fit (genOf wide p m e prec dot big) := by
  unfold genOf
  split
  · have := shortL_ok wide hp
    exact gen_fit this.1.1.asc this.2 dot big (by decide)
  · have hn := exD_near hm h
    have hb := round_bound hn (max prec 1)
    exact gen_fit (round_form hn.form _).1.asc (by omega) dot big (by omega)
theorem bin_fit (m : Nat) (e : Int) : Fit (binL m e) := by
  refine ⟨(bT_asc (by decide) m).app (powL_asc (by decide) e 1), ?_⟩
  have h1 := bT_len 10 m
  have h2 := powL_len ([112] : List UInt8) (e := e) (least := 1) (by decide)
  unfold binL
  rw [List.length_append]
  simp at h2
  omega
set_option maxRecDepth 100000 in
theorem upper_asc (b : UInt8) (h : b.toNat < 128) : (Lib.upperB b).toNat < 128 := by
  have key : ∀ n : Fin 256, n.val < 128 → (Lib.upperB (UInt8.ofNat n.val)).toNat < 128 := by decide
  have := key ⟨b.toNat, b.toNat_lt⟩ h
  rwa [UInt8.ofNat_toNat] at this
theorem hexEnd_fit {lead ds : List UInt8} (hl : lead.length ≤ 10 ∧ Asc lead) (hd : ds.length ≤ 2000 ∧ Asc ds) (dot up : Bool) (x : Int) : Fit (hexEnd dot up lead ds x) := by
  have h1 := ptL_len dot lead ds
  have h2 := powL_len ([112] : List UInt8) (e := x) (least := 2) (by decide)
  have ha : Asc ([48, 120] ++ (ptL dot lead ds ++ powL [112] x 2)) := Asc.app (by decide) ((ptL_asc hl.2 hd.2 dot).app (powL_asc (by decide) x 2))
  have hlen : ([48, 120] ++ (ptL dot lead ds ++ powL [112] x 2)).length ≤ 100000 := by simp at h2 ⊢; omega
  unfold hexEnd
  split
  · refine ⟨fun c hc => ?_, by unfold Lib.toUpperA; rw [List.length_map]; exact hlen⟩
    unfold Lib.toUpperA at hc
    obtain ⟨b, hb, rfl⟩ := List.mem_map.1 hc
    exact upper_asc b (ha b hb)
  · exact ⟨ha, hlen⟩
theorem hexTail_fit (dot up : Bool) {lead : List UInt8} (hl : lead.length ≤ 10 ∧ Asc lead) {part : Nat} (hp : part ≤ 18446744073709551615) (x : Int) {prec : Int} (hq : -1 ≤ prec ∧ prec ≤ 1000) : Fit (hexTail dot up lead part x prec) := by
  have hs := sixL_len hp
  unfold hexTail
  split
  · exact hexEnd_fit hl ⟨by have := rz_len (sixL part); omega, rz_asc (six_asc _)⟩ dot up x
  · split
    · have hf := fillL_len (sixL part) prec
      exact hexEnd_fit hl ⟨by omega, fillL_asc (six_asc _) _⟩ dot up x
    · unfold hexMid
      dsimp only
      refine hexEnd_fit hl ?_ dot up _
      split
      · exact ⟨by decide, Asc.nil⟩
      · refine ⟨?_, (six_asc _).take _⟩
        rw [List.length_take]
        omega
theorem hex_fit (m : Nat) (e : Int) {prec : Int} (hq : -1 ≤ prec ∧ prec ≤ 1000) (dot up : Bool) : Fit (hexL m e prec dot up) := by
  unfold hexL
  split
  · exact hexTail_fit dot up ⟨by decide, by decide⟩ (by decide) _ hq
  · exact hexTail_fit dot up ⟨by decide, by decide⟩ (by omega) _ hq
theorem six_ok {prec : Int} (hq : -1 ≤ prec ∧ prec ≤ 1000) : 0 ≤ six prec ∧ six prec ≤ 1000 := by unfold six; split <;> omega
theorem rest_fit (wide : Bool) {p : Nat} (hp : p < ii wide) {m : Nat} (hm : m < 18446744073709551616) {e : Int} (h : -1200 ≤ e ∧ e ≤ 1200) {prec : Int} (hq : -1 ≤ prec ∧ prec ≤ 1000) (v : Int) (sharp : Bool) : Fit (restL wide p m e prec v sharp) := by
  have hn := exD_near hm h
  unfold restL
  repeat' split
  · exact scaled_fit hn _ _ (six_ok hq)
  · exact fixed_fit hn _ (six_ok hq)
  · exact genOf_fit wide hp hm h hq _ _
  · exact bin_fit m e
  · exact hex_fit m e hq _ _
def endL (sign rest : List UInt8) (minus zero : Bool) (wid : Int) : List UInt8 :=
  padL (sign ++ (if zero && !minus then List.replicate (max 0 (min wid 1000) - sign.length - rest.length).toNat 48 ++ rest else rest)) minus false wid
theorem end_ev {sign rest : List UInt8} (hs : sign.length ≤ 1 ∧ Asc sign) (hr : Fit rest) (plus minus sharp space zero : Bool) (wid prec v : Int) :
    Ev (fun k => floats_Float.j3 k (S sign) (S rest) plus minus sharp space zero wid prec v) (S (endL sign rest minus zero wid), true) := by
  have ha := hr.1
  have hl := hr.2
  have key : ∀ u : Bool, Ev (fun k => floats_Float.j4 k (S sign) (S rest) u plus minus sharp space zero wid prec v) (S (padL (sign ++ (if u then List.replicate (max 0 (min wid 1000) - sign.length - rest.length).toNat 48 ++ rest else rest)) minus false wid), true) := by
    intro u
    refine Ev.step (fun k => by simp only [floats_Float.j4]; rfl) ?_
    cases u with
    | true =>
      refine Ev.congr (fun k => if_pos rfl) ?_
      rw [if_pos rfl, size_S, size_S, mx_eq, mn_eq, w64 (x := max 0 (min wid 1000) - (sign.length : Int)) (by omega) (by omega), w64 (by omega) (by omega)]
      have hf := fill_eq 48 (max 0 (min wid 1000) - (sign.length : Int) - (rest.length : Int))
      rw [show (((48 : UInt8).toNat : Nat) : Int) = 48 from rfl, show (min (max 0 (min wid 1000) - (sign.length : Int) - (rest.length : Int)) 1000).toNat = (max 0 (min wid 1000) - (sign.length : Int) - (rest.length : Int)).toNat by omega] at hf
      rw [hf]
      simp only [Option.bind_some]
      generalize hz : (max 0 (min wid 1000) - (sign.length : Int) - (rest.length : Int)).toNat = n
      have hn : n ≤ 1000 := by omega
      refine Ev.congr (fun k => if_pos (by rw [size_S, List.length_replicate]; omega)) ?_
      rw [S_app2]
      refine Ev.congr (fun k => if_pos (by rw [size_S, List.length_append, List.length_replicate]; omega)) ?_
      rw [S_app2, pad_eq (hs.2.app ((Asc.rep n (by decide)).app ha)) (by rw [List.length_append, List.length_append, List.length_replicate]; omega)]
      exact Ev.now _
    | false =>
      refine Ev.congr (fun k => if_neg (by simp)) ?_
      show Ev _ (S (padL (sign ++ rest) minus false wid), true)
      refine Ev.congr (fun k => if_pos (by rw [size_S, size_S]; omega)) ?_
      rw [S_app2, pad_eq (hs.2.app ha) (by rw [List.length_append]; omega)]
      exact Ev.now _
  refine Ev.step (fun k => by simp only [floats_Float.j3]; rfl) ?_
  unfold endL
  cases zero with
  | true => exact Ev.congr (fun k => if_pos rfl) (key (!minus))
  | false => exact Ev.congr (fun k => if_neg (by simp)) (key false)
def floatS (wide : Bool) (a : Nat) (plus minus sharp space zero : Bool) (wid prec v : Int) : ByteArray × Bool :=
  if codeV v = 0 then (⟨#[]⟩, false)
  else if bareN wide a < ii wide then (S (endL (signL (a / tt wide % 2 == 1) 0 plus space) (restL wide (bareN wide a) (fM (ff wide) (bareN wide a)) ((fE (ff wide) (bareN wide a) : Int) - (ll wide : Int)) (clamp prec) v sharp) minus zero wid), true)
  else if bareN wide a = ii wide then (S (endL (signL (a / tt wide % 2 == 1) 1 plus space) [73, 110, 102] minus false wid), true)
  else (S (endL (signL (a / tt wide % 2 == 1) 2 plus space) [78, 97, 78] minus false wid), true)
theorem sign_ev {R : ByteArray × Bool} (x0 x1 x9 x10 x11 x12 : Int) (neg plus minus sharp space zero : Bool) (wid prec v : Int)
    (h : Ev (fun k => floats_Float.j2 k x0 x1 x9 x10 x11 x12 (S (signL neg x11 plus space)) plus minus sharp space zero wid prec v) R) (u : Bool) (hu : u = decide (neg = true ∧ x11 ≠ 2)) :
    Ev (fun k => floats_Float.j1 k x0 x1 x9 x10 x11 x12 (⟨#[]⟩ : ByteArray) u plus minus sharp space zero wid prec v) R := by
  unfold signL at h
  refine Ev.step (fun k => by simp only [floats_Float.j1]; rfl) ?_
  by_cases c : neg = true ∧ x11 ≠ 2
  · have : u = true := by rw [hu]; exact decide_eq_true c
    subst this
    rw [if_pos c] at h
    exact Ev.congr (fun k => if_pos rfl) h
  · have : u = false := by rw [hu]; exact decide_eq_false c
    subst this
    rw [if_neg c] at h
    refine Ev.congr (fun k => if_neg (by simp)) ?_
    cases plus with
    | true => exact Ev.congr (fun k => if_pos rfl) h
    | false =>
      refine Ev.congr (fun k => if_neg (by simp)) ?_
      cases space with
      | true => exact Ev.congr (fun k => if_pos rfl) h
      | false =>
        refine Ev.congr (fun k => if_neg (by simp)) ?_
        by_cases c1 : x11 = 1
        · rw [if_neg (by simp), if_neg (by simp), if_pos c1] at h
          exact Ev.congr (fun k => if_pos c1) h
        · rw [if_neg (by simp), if_neg (by simp), if_neg c1] at h
          exact Ev.congr (fun k => if_neg c1) h
theorem mxn_clamp (prec : Int) : mx (-1) (mn prec 1000) = clamp prec := by rw [mx_eq, mn_eq]; rfl
theorem rest_ev (wide : Bool) {a p : Nat} (ha : a < 18446744073709551616) (hb : bareN wide a = p) (hp : p < ii wide) {m : Nat} (hm : m < 18446744073709551616) {e : Int} (h : -1200 ≤ e ∧ e ≤ 1200) {sign : List UInt8} (hs : sign.length ≤ 1 ∧ Asc sign) (plus minus sharp space zero : Bool) (wid prec v : Int) (hc : codeV v ≠ 0) :
    Ev (fun k => floats_Float.j2 k (a : Int) (szB wide) (m : Int) e 0 (codeV v) (S sign) plus minus sharp space zero wid prec v) (S (endL sign (restL wide p m e (clamp prec) v sharp) minus zero wid), true) := by
  have hq := clamp_ok prec
  have hfit := rest_fit wide hp hm h hq v sharp
  have hend := end_ev hs hfit plus minus sharp space zero wid prec v
  have hsl := (shortL_ok wide hp).2
  have hcl := codeV_le v
  refine Ev.step (fun k => by simp only [floats_Float.j2]; rfl) ?_
  refine Ev.congr (fun k => if_neg (by decide)) ?_
  refine Ev.congr (fun k => if_neg (by decide)) ?_
  rw [mxn_clamp]
  have way : ∀ dot : Bool, dot = (sharp && v != 118) → Ev (fun k => if codeV v = 1 then ((floats_float_scaled.f k (a : Int) (szB wide) (m : Int) e (clamp prec) dot v).bind fun t456 => (floats_Float.j3 k (S sign) t456 plus minus sharp space zero wid prec v)) else (if codeV v = 2 then ((floats_float_fixed.f k (a : Int) (szB wide) (m : Int) e (clamp prec) dot v).bind fun t457 => (floats_Float.j3 k (S sign) t457 plus minus sharp space zero wid prec v)) else (if codeV v = 3 then ((floats_float_general.f k (a : Int) (szB wide) (m : Int) e (clamp prec) dot v).bind fun t458 => (floats_Float.j3 k (S sign) t458 plus minus sharp space zero wid prec v)) else (if codeV v = 4 then ((floats_float_binary.f (a : Int) (szB wide) (m : Int) e (clamp prec) dot v).bind fun t459 => (floats_Float.j3 k (S sign) t459 plus minus sharp space zero wid prec v)) else (if codeV v = 5 then ((floats_float_hex.f k (a : Int) (szB wide) (m : Int) e (clamp prec) dot v).bind fun t460 => (floats_Float.j3 k (S sign) t460 plus minus sharp space zero wid prec v)) else none)))))
      (S (endL sign (restL wide p m e (clamp prec) v sharp) minus zero wid), true) := by
    intro dot hd
    unfold restL at hend ⊢
    rw [← hd] at hend ⊢
    by_cases c1 : codeV v = 1
    · rw [if_pos c1] at hend ⊢
      exact Ev.congr (fun k => if_pos c1) (Ev.bind (scaled_ev _ _ hm h hq v dot) hend)
    · rw [if_neg c1] at hend ⊢
      refine Ev.congr (fun k => if_neg c1) ?_
      by_cases c2 : codeV v = 2
      · rw [if_pos c2] at hend ⊢
        exact Ev.congr (fun k => if_pos c2) (Ev.bind (fixed_ev _ _ hm h hq v dot) hend)
      · rw [if_neg c2] at hend ⊢
        refine Ev.congr (fun k => if_neg c2) ?_
        by_cases c3 : codeV v = 3
        · rw [if_pos c3] at hend ⊢
          exact Ev.congr (fun k => if_pos c3) (Ev.bind (gen_ev wide ha hb hp hsl hm h hq v dot) hend)
        · rw [if_neg c3] at hend ⊢
          refine Ev.congr (fun k => if_neg c3) ?_
          by_cases c4 : codeV v = 4
          · rw [if_pos c4] at hend ⊢
            refine Ev.congr (fun k => if_pos c4) ?_
            rw [binary_eq _ _ _ _ _ (by omega) (by omega)]
            exact hend
          · rw [if_neg c4] at hend ⊢
            refine Ev.congr (fun k => if_neg c4) ?_
            exact Ev.congr (fun k => if_pos (by omega)) (Ev.bind (hex_ev _ _ v dot hm h hq) hend)
  cases sharp with
  | true => exact Ev.congr (fun k => if_pos rfl) (way (v != 118) (by simp))
  | false => exact Ev.congr (fun k => if_neg (by simp)) (way false rfl)
theorem float_ev (wide : Bool) {a : Nat} (ha : a < 18446744073709551616) (plus minus sharp space zero : Bool) (wid prec v : Int) :
    Ev (fun k => floats_Float.f k (a : Int) (szB wide) plus minus sharp space zero wid prec v) (floatS wide a plus minus sharp space zero wid prec v) := by
  have hi := ii_lt wide
  unfold floats_Float.f floatS
  rw [parts_eq wide a ha]
  simp only [Option.bind_some]
  refine Ev.bind (chosen_ev v) ?_
  have hk : ∀ x : Int, x = (partsS wide a).2.2.2 → x ≠ 3 := by
    intro x hx
    rw [hx]
    unfold partsS
    split
    · exact (by decide : (0 : Int) ≠ 3)
    · dsimp only; split <;> decide
  refine Ev.congr (fun k => if_neg (hk _ rfl)) ?_
  refine Ev.step (fun k => by simp only [floats_Float.j0]; rfl) ?_
  by_cases c0 : codeV v = 0
  · rw [if_pos c0]
    exact Ev.congr (fun k => if_pos (beq_iff_eq.mpr c0)) (Ev.now _)
  · rw [if_neg c0]
    refine Ev.congr (fun k => if_neg (by rw [beq_eq_false_iff_ne.mpr c0]; simp)) ?_
    have signs : ∀ {R : ByteArray × Bool} (x9 x10 x11 : Int) (neg : Bool), Ev (fun k => floats_Float.j2 k (a : Int) (szB wide) x9 x10 x11 (codeV v) (S (signL neg x11 plus space)) plus minus sharp space zero wid prec v) R →
        Ev (fun k => if neg = true then (floats_Float.j1 k (a : Int) (szB wide) x9 x10 x11 (codeV v) (⟨#[]⟩ : ByteArray) (x11 != 2) plus minus sharp space zero wid prec v) else (floats_Float.j1 k (a : Int) (szB wide) x9 x10 x11 (codeV v) (⟨#[]⟩ : ByteArray) false plus minus sharp space zero wid prec v)) R := by
      intro R x9 x10 x11 neg h
      cases neg with
      | true => exact Ev.congr (fun k => if_pos rfl) (sign_ev _ _ _ _ _ _ true plus minus sharp space zero wid prec v h _ (by rw [Bool.eq_iff_iff]; simp))
      | false => exact Ev.congr (fun k => if_neg (by simp)) (sign_ev _ _ _ _ _ _ false plus minus sharp space zero wid prec v h _ (by rw [Bool.eq_iff_iff]; simp))
    by_cases c1 : bareN wide a < ii wide
    · rw [if_pos c1]
      have hb := fEl wide (Nat.le_of_lt c1)
      have hb2 := fE_le wide (Nat.le_of_lt c1)
      have e1 : partsS wide a = ((a / tt wide % 2 == 1 : Bool), (fM (ff wide) (bareN wide a) : Int), (fE (ff wide) (bareN wide a) : Int) - (ll wide : Int), 0) := by
        unfold partsS; rw [if_pos c1]
      rw [e1]
      exact signs _ _ _ _ (rest_ev (m := fM (ff wide) (bareN wide a)) (e := (fE (ff wide) (bareN wide a) : Int) - (ll wide : Int)) wide ha rfl c1 (by omega) (by omega) (signL_ok _ _ _ _) plus minus sharp space zero wid prec v c0)
    · rw [if_neg c1]
      have e1 : partsS wide a = ((a / tt wide % 2 == 1 : Bool), 0, 0, if bareN wide a = ii wide then 1 else 2) := by
        unfold partsS; rw [if_neg c1]
      rw [e1]
      by_cases c2 : bareN wide a = ii wide
      · rw [if_pos c2, if_pos c2]
        refine signs _ _ _ _ ?_
        refine Ev.step (fun k => by simp only [floats_Float.j2]; rfl) ?_
        refine Ev.congr (fun k => if_neg (by decide)) ?_
        refine Ev.congr (fun k => if_pos (by first | trivial | rfl)) ?_
        exact end_ev (rest := [73, 110, 102]) (signL_ok _ _ _ _) ⟨by decide, by decide⟩ plus minus sharp space false wid prec v
      · rw [if_neg c2, if_neg c2]
        refine signs _ _ _ _ ?_
        refine Ev.step (fun k => by simp only [floats_Float.j2]; rfl) ?_
        refine Ev.congr (fun k => if_pos (by first | trivial | rfl)) ?_
        exact end_ev (rest := [78, 97, 78]) (signL_ok _ _ _ _) ⟨by decide, by decide⟩ plus minus sharp space false wid prec v
end Go.Proofs.YtecpgdfnamkfdaaGreatDoor.Pure
end
section
namespace Go.Proofs.YtecpgdfnamkfdaaGreatDoor.Fn
open Go.RowKit Go.Proofs.YtecpgdfnamkfdaaGreatDoorW.PrintWords Go.Proofs.YtecpgdfnamkfdaaGreatDoorW.PrintLast Go.Proofs.YtecpgdfnamkfdaaGreatDoorW.PrintMore
attribute [local go_sem] fnW_0 fnW_1 fnW_2 fnW_3 fnW_4 fnW_5 fnW_guard fnW_eql max2_int min2_int max_two min_two
set_option linter.unusedVariables false
set_option linter.unusedSimpArgs false
def platenlaw06_lives.f (k : Nat)  : Option (Bool) := (platenlaw06_bare.f 101).bind fun bt831 => ((floats_Float.f k 4609434218613702656 64 bt831.1 bt831.2.1 bt831.2.2.1 bt831.2.2.2.1 bt831.2.2.2.2.1 bt831.2.2.2.2.2.1 bt831.2.2.2.2.2.2.1 bt831.2.2.2.2.2.2.2).bind fun bt839 => ((platenlaw06_bare.f 118).bind fun bt841 => ((floats_Float.f k 4591870180066957722 64 bt841.1 bt841.2.1 bt841.2.2.1 bt841.2.2.2.1 bt841.2.2.2.2.1 bt841.2.2.2.2.2.1 bt841.2.2.2.2.2.2.1 bt841.2.2.2.2.2.2.2).bind fun bt849 => ((platenlaw06_bare.f 100).bind fun bt851 => ((floats_Float.f k 0 64 bt851.1 bt851.2.1 bt851.2.2.1 bt851.2.2.2.1 bt851.2.2.2.2.1 bt851.2.2.2.2.2.1 bt851.2.2.2.2.2.2.1 bt851.2.2.2.2.2.2.2).bind fun bt859 => (if bt839.2 = true then (if bt849.2 = true then (if bt859.2 = true then (some false) else (if bt839.1.toList = ([49, 46, 53, 48, 48, 48, 48, 48, 101, 43, 48, 48] : List UInt8) then (some (bt849.1.toList == ([48, 46, 49] : List UInt8))) else (some false))) else (some false)) else (some false)))))))
set_option maxHeartbeats 8000000 in
set_option maxRecDepth 100000 in
theorem platenlaw06_lives.calls (k : Nat)  (r : Bool) (w : World) (h : platenlaw06_lives.f k  = some r) :
  Calls Tryz.prog 23 #[] w fun e w' => e = .returned (.bool r) ∧ Below w.heap.size w w' := by
 have HB := Aside0.mk (Below.refl w.heap.size w)
 have H : ((platenlaw06_bare.f 101).bind fun bt831 => ((floats_Float.f k 4609434218613702656 64 bt831.1 bt831.2.1 bt831.2.2.1 bt831.2.2.2.1 bt831.2.2.2.2.1 bt831.2.2.2.2.2.1 bt831.2.2.2.2.2.2.1 bt831.2.2.2.2.2.2.2).bind fun bt839 => ((platenlaw06_bare.f 118).bind fun bt841 => ((floats_Float.f k 4591870180066957722 64 bt841.1 bt841.2.1 bt841.2.2.1 bt841.2.2.2.1 bt841.2.2.2.2.1 bt841.2.2.2.2.2.1 bt841.2.2.2.2.2.2.1 bt841.2.2.2.2.2.2.2).bind fun bt849 => ((platenlaw06_bare.f 100).bind fun bt851 => ((floats_Float.f k 0 64 bt851.1 bt851.2.1 bt851.2.2.1 bt851.2.2.2.1 bt851.2.2.2.2.1 bt851.2.2.2.2.2.1 bt851.2.2.2.2.2.2.1 bt851.2.2.2.2.2.2.2).bind fun bt859 => (if bt839.2 = true then (if bt849.2 = true then (if bt859.2 = true then (some false) else (if bt839.1.toList = ([49, 46, 53, 48, 48, 48, 48, 48, 101, 43, 48, 48] : List UInt8) then (some (bt849.1.toList == ([48, 46, 49] : List UInt8))) else (some false))) else (some false)) else (some false)))))))) = some r := h
 clear h
 replace H := bs H
 obtain ⟨⟨t831, t832, t833, t834, t835, t836, t837, t838⟩, A1, H⟩ := H
 dsimp only at H
 replace H := bs H
 obtain ⟨⟨t839, t840⟩, A2, H⟩ := H
 dsimp only at H
 replace H := bs H
 obtain ⟨⟨t841, t842, t843, t844, t845, t846, t847, t848⟩, A3, H⟩ := H
 dsimp only at H
 replace H := bs H
 obtain ⟨⟨t849, t850⟩, A4, H⟩ := H
 dsimp only at H
 replace H := bs H
 obtain ⟨⟨t851, t852, t853, t854, t855, t856, t857, t858⟩, A5, H⟩ := H
 dsimp only at H
 replace H := bs H
 obtain ⟨⟨t859, t860⟩, A6, H⟩ := H
 dsimp only at H
 by_cases c7 : t840 = true
 ·subst c7
  replace H := hT H
  by_cases c8 : t850 = true
  ·subst c8
   replace H := hT H
   by_cases c9 : t860 = true
   ·subst c9
    replace H := hT H
    obtain rfl := Option.some.inj H
    go_enter Tryz.func23, Tryz.ntmps23
    go_wp2_with (first | ((with_reducible refine gate_callee (f := 30) rfl ?_); refine goesL_ (some 8) rfl rfl Tryz.func30 (by kernel_rfl) rfl #[.int .i32 101] rfl lz ?_; (with_reducible refine (platenlaw06_bare.calls 101 t831 t832 t833 t834 t835 t836 t837 t838 _ A1.out).mono ?_); rintro e w10 ⟨rfl, hb⟩; refine ⟨_, rfl, ?_⟩; replace HB := bN bz hb; (try clear hb); (try clear hb2); (try clear hk); (try clear hi)) | ((with_reducible refine gate_callee (f := 25) rfl ?_); refine goesL_ (some 9) rfl rfl Tryz.func25 (by kernel_rfl) rfl #[.int .u64 4609434218613702656, .int .i64 64, .agg #[.bool t831, .bool t832, .bool t833, .bool t834, .bool t835, .int .i64 t836, .int .i64 t837, .int .i32 t838]] rfl lz ?_; (with_reducible refine (floats_Float.calls k 4609434218613702656 64 t831 t832 t833 t834 t835 t836 t837 t838 t839 true _ A2.out).mono ?_); rintro e w11 ⟨rfl, hb⟩; refine ⟨_, rfl, ?_⟩; replace HB := bN bz hb; (try clear hb); (try clear hb2); (try clear hk); (try clear hi)) | ((with_reducible refine gate_callee (f := 30) rfl ?_); refine goesL_ (some 13) rfl rfl Tryz.func30 (by kernel_rfl) rfl #[.int .i32 118] rfl lz ?_; (with_reducible refine (platenlaw06_bare.calls 118 t841 t842 t843 t844 t845 t846 t847 t848 _ A3.out).mono ?_); rintro e w12 ⟨rfl, hb⟩; refine ⟨_, rfl, ?_⟩; replace HB := bN bz hb; (try clear hb); (try clear hb2); (try clear hk); (try clear hi)) | ((with_reducible refine gate_callee (f := 25) rfl ?_); refine goesL_ (some 14) rfl rfl Tryz.func25 (by kernel_rfl) rfl #[.int .u64 4591870180066957722, .int .i64 64, .agg #[.bool t841, .bool t842, .bool t843, .bool t844, .bool t845, .int .i64 t846, .int .i64 t847, .int .i32 t848]] rfl lz ?_; (with_reducible refine (floats_Float.calls k 4591870180066957722 64 t841 t842 t843 t844 t845 t846 t847 t848 t849 true _ A4.out).mono ?_); rintro e w13 ⟨rfl, hb⟩; refine ⟨_, rfl, ?_⟩; replace HB := bN bz hb; (try clear hb); (try clear hb2); (try clear hk); (try clear hi)) | ((with_reducible refine gate_callee (f := 30) rfl ?_); refine goesL_ (some 18) rfl rfl Tryz.func30 (by kernel_rfl) rfl #[.int .i32 100] rfl lz ?_; (with_reducible refine (platenlaw06_bare.calls 100 t851 t852 t853 t854 t855 t856 t857 t858 _ A5.out).mono ?_); rintro e w14 ⟨rfl, hb⟩; refine ⟨_, rfl, ?_⟩; replace HB := bN bz hb; (try clear hb); (try clear hb2); (try clear hk); (try clear hi)) | ((with_reducible refine gate_callee (f := 25) rfl ?_); refine goesL_ (some 19) rfl rfl Tryz.func25 (by kernel_rfl) rfl #[.int .u64 0, .int .i64 64, .agg #[.bool t851, .bool t852, .bool t853, .bool t854, .bool t855, .int .i64 t856, .int .i64 t857, .int .i32 t858]] rfl lz ?_; (with_reducible refine (floats_Float.calls k 0 64 t851 t852 t853 t854 t855 t856 t857 t858 t859 true _ A6.out).mono ?_); rintro e w15 ⟨rfl, hb⟩; refine ⟨_, rfl, ?_⟩; replace HB := bN bz hb; (try clear hb); (try clear hb2); (try clear hk); (try clear hi)))
    go_ret
    exact ⟨ez, bz⟩
   ·replace c9 := Bool.eq_false_iff.mpr c9
    subst c9
    replace H := hF H
    by_cases c16 : t839.toList = ([49, 46, 53, 48, 48, 48, 48, 48, 101, 43, 48, 48] : List UInt8)
    ·replace H := hE H c16
     have c16b0 : (t839.toList == ([49, 46, 53, 48, 48, 48, 48, 48, 101, 43, 48, 48] : List UInt8)) = true := beq_iff_eq.mpr c16
     have c16b1 : (t839.toList != ([49, 46, 53, 48, 48, 48, 48, 48, 101, 43, 48, 48] : List UInt8)) = false := bne_eq_false_iff_eq.mpr c16
     clear c16
     obtain rfl := Option.some.inj H
     go_enter Tryz.func23, Tryz.ntmps23
     go_wp2_with (first | ((with_reducible refine gate_callee (f := 30) rfl ?_); refine goesL_ (some 8) rfl rfl Tryz.func30 (by kernel_rfl) rfl #[.int .i32 101] rfl lz ?_; (with_reducible refine (platenlaw06_bare.calls 101 t831 t832 t833 t834 t835 t836 t837 t838 _ A1.out).mono ?_); rintro e w17 ⟨rfl, hb⟩; refine ⟨_, rfl, ?_⟩; replace HB := bN bz hb; (try clear hb); (try clear hb2); (try clear hk); (try clear hi)) | ((with_reducible refine gate_callee (f := 25) rfl ?_); refine goesL_ (some 9) rfl rfl Tryz.func25 (by kernel_rfl) rfl #[.int .u64 4609434218613702656, .int .i64 64, .agg #[.bool t831, .bool t832, .bool t833, .bool t834, .bool t835, .int .i64 t836, .int .i64 t837, .int .i32 t838]] rfl lz ?_; (with_reducible refine (floats_Float.calls k 4609434218613702656 64 t831 t832 t833 t834 t835 t836 t837 t838 t839 true _ A2.out).mono ?_); rintro e w18 ⟨rfl, hb⟩; refine ⟨_, rfl, ?_⟩; replace HB := bN bz hb; (try clear hb); (try clear hb2); (try clear hk); (try clear hi)) | ((with_reducible refine gate_callee (f := 30) rfl ?_); refine goesL_ (some 13) rfl rfl Tryz.func30 (by kernel_rfl) rfl #[.int .i32 118] rfl lz ?_; (with_reducible refine (platenlaw06_bare.calls 118 t841 t842 t843 t844 t845 t846 t847 t848 _ A3.out).mono ?_); rintro e w19 ⟨rfl, hb⟩; refine ⟨_, rfl, ?_⟩; replace HB := bN bz hb; (try clear hb); (try clear hb2); (try clear hk); (try clear hi)) | ((with_reducible refine gate_callee (f := 25) rfl ?_); refine goesL_ (some 14) rfl rfl Tryz.func25 (by kernel_rfl) rfl #[.int .u64 4591870180066957722, .int .i64 64, .agg #[.bool t841, .bool t842, .bool t843, .bool t844, .bool t845, .int .i64 t846, .int .i64 t847, .int .i32 t848]] rfl lz ?_; (with_reducible refine (floats_Float.calls k 4591870180066957722 64 t841 t842 t843 t844 t845 t846 t847 t848 t849 true _ A4.out).mono ?_); rintro e w20 ⟨rfl, hb⟩; refine ⟨_, rfl, ?_⟩; replace HB := bN bz hb; (try clear hb); (try clear hb2); (try clear hk); (try clear hi)) | ((with_reducible refine gate_callee (f := 30) rfl ?_); refine goesL_ (some 18) rfl rfl Tryz.func30 (by kernel_rfl) rfl #[.int .i32 100] rfl lz ?_; (with_reducible refine (platenlaw06_bare.calls 100 t851 t852 t853 t854 t855 t856 t857 t858 _ A5.out).mono ?_); rintro e w21 ⟨rfl, hb⟩; refine ⟨_, rfl, ?_⟩; replace HB := bN bz hb; (try clear hb); (try clear hb2); (try clear hk); (try clear hi)) | ((with_reducible refine gate_callee (f := 25) rfl ?_); refine goesL_ (some 19) rfl rfl Tryz.func25 (by kernel_rfl) rfl #[.int .u64 0, .int .i64 64, .agg #[.bool t851, .bool t852, .bool t853, .bool t854, .bool t855, .int .i64 t856, .int .i64 t857, .int .i32 t858]] rfl lz ?_; (with_reducible refine (floats_Float.calls k 0 64 t851 t852 t853 t854 t855 t856 t857 t858 t859 false _ A6.out).mono ?_); rintro e w22 ⟨rfl, hb⟩; refine ⟨_, rfl, ?_⟩; replace HB := bN bz hb; (try clear hb); (try clear hb2); (try clear hk); (try clear hi)))
     go_ret
     exact ⟨ez, bz⟩
    ·replace H := hN H c16
     have c16b0 : (t839.toList == ([49, 46, 53, 48, 48, 48, 48, 48, 101, 43, 48, 48] : List UInt8)) = false := beq_eq_false_iff_ne.mpr c16
     have c16b1 : (t839.toList != ([49, 46, 53, 48, 48, 48, 48, 48, 101, 43, 48, 48] : List UInt8)) = true := bne_iff_ne.mpr c16
     obtain rfl := Option.some.inj H
     go_enter Tryz.func23, Tryz.ntmps23
     go_wp2_with (first | ((with_reducible refine gate_callee (f := 30) rfl ?_); refine goesL_ (some 8) rfl rfl Tryz.func30 (by kernel_rfl) rfl #[.int .i32 101] rfl lz ?_; (with_reducible refine (platenlaw06_bare.calls 101 t831 t832 t833 t834 t835 t836 t837 t838 _ A1.out).mono ?_); rintro e w23 ⟨rfl, hb⟩; refine ⟨_, rfl, ?_⟩; replace HB := bN bz hb; (try clear hb); (try clear hb2); (try clear hk); (try clear hi)) | ((with_reducible refine gate_callee (f := 25) rfl ?_); refine goesL_ (some 9) rfl rfl Tryz.func25 (by kernel_rfl) rfl #[.int .u64 4609434218613702656, .int .i64 64, .agg #[.bool t831, .bool t832, .bool t833, .bool t834, .bool t835, .int .i64 t836, .int .i64 t837, .int .i32 t838]] rfl lz ?_; (with_reducible refine (floats_Float.calls k 4609434218613702656 64 t831 t832 t833 t834 t835 t836 t837 t838 t839 true _ A2.out).mono ?_); rintro e w24 ⟨rfl, hb⟩; refine ⟨_, rfl, ?_⟩; replace HB := bN bz hb; (try clear hb); (try clear hb2); (try clear hk); (try clear hi)) | ((with_reducible refine gate_callee (f := 30) rfl ?_); refine goesL_ (some 13) rfl rfl Tryz.func30 (by kernel_rfl) rfl #[.int .i32 118] rfl lz ?_; (with_reducible refine (platenlaw06_bare.calls 118 t841 t842 t843 t844 t845 t846 t847 t848 _ A3.out).mono ?_); rintro e w25 ⟨rfl, hb⟩; refine ⟨_, rfl, ?_⟩; replace HB := bN bz hb; (try clear hb); (try clear hb2); (try clear hk); (try clear hi)) | ((with_reducible refine gate_callee (f := 25) rfl ?_); refine goesL_ (some 14) rfl rfl Tryz.func25 (by kernel_rfl) rfl #[.int .u64 4591870180066957722, .int .i64 64, .agg #[.bool t841, .bool t842, .bool t843, .bool t844, .bool t845, .int .i64 t846, .int .i64 t847, .int .i32 t848]] rfl lz ?_; (with_reducible refine (floats_Float.calls k 4591870180066957722 64 t841 t842 t843 t844 t845 t846 t847 t848 t849 true _ A4.out).mono ?_); rintro e w26 ⟨rfl, hb⟩; refine ⟨_, rfl, ?_⟩; replace HB := bN bz hb; (try clear hb); (try clear hb2); (try clear hk); (try clear hi)) | ((with_reducible refine gate_callee (f := 30) rfl ?_); refine goesL_ (some 18) rfl rfl Tryz.func30 (by kernel_rfl) rfl #[.int .i32 100] rfl lz ?_; (with_reducible refine (platenlaw06_bare.calls 100 t851 t852 t853 t854 t855 t856 t857 t858 _ A5.out).mono ?_); rintro e w27 ⟨rfl, hb⟩; refine ⟨_, rfl, ?_⟩; replace HB := bN bz hb; (try clear hb); (try clear hb2); (try clear hk); (try clear hi)) | ((with_reducible refine gate_callee (f := 25) rfl ?_); refine goesL_ (some 19) rfl rfl Tryz.func25 (by kernel_rfl) rfl #[.int .u64 0, .int .i64 64, .agg #[.bool t851, .bool t852, .bool t853, .bool t854, .bool t855, .int .i64 t856, .int .i64 t857, .int .i32 t858]] rfl lz ?_; (with_reducible refine (floats_Float.calls k 0 64 t851 t852 t853 t854 t855 t856 t857 t858 t859 false _ A6.out).mono ?_); rintro e w28 ⟨rfl, hb⟩; refine ⟨_, rfl, ?_⟩; replace HB := bN bz hb; (try clear hb); (try clear hb2); (try clear hk); (try clear hi)))
     go_ret
     exact ⟨ez, bz⟩
  ·replace c8 := Bool.eq_false_iff.mpr c8
   subst c8
   replace H := hF H
   obtain rfl := Option.some.inj H
   go_enter Tryz.func23, Tryz.ntmps23
   go_wp2_with (first | ((with_reducible refine gate_callee (f := 30) rfl ?_); refine goesL_ (some 8) rfl rfl Tryz.func30 (by kernel_rfl) rfl #[.int .i32 101] rfl lz ?_; (with_reducible refine (platenlaw06_bare.calls 101 t831 t832 t833 t834 t835 t836 t837 t838 _ A1.out).mono ?_); rintro e w29 ⟨rfl, hb⟩; refine ⟨_, rfl, ?_⟩; replace HB := bN bz hb; (try clear hb); (try clear hb2); (try clear hk); (try clear hi)) | ((with_reducible refine gate_callee (f := 25) rfl ?_); refine goesL_ (some 9) rfl rfl Tryz.func25 (by kernel_rfl) rfl #[.int .u64 4609434218613702656, .int .i64 64, .agg #[.bool t831, .bool t832, .bool t833, .bool t834, .bool t835, .int .i64 t836, .int .i64 t837, .int .i32 t838]] rfl lz ?_; (with_reducible refine (floats_Float.calls k 4609434218613702656 64 t831 t832 t833 t834 t835 t836 t837 t838 t839 true _ A2.out).mono ?_); rintro e w30 ⟨rfl, hb⟩; refine ⟨_, rfl, ?_⟩; replace HB := bN bz hb; (try clear hb); (try clear hb2); (try clear hk); (try clear hi)) | ((with_reducible refine gate_callee (f := 30) rfl ?_); refine goesL_ (some 13) rfl rfl Tryz.func30 (by kernel_rfl) rfl #[.int .i32 118] rfl lz ?_; (with_reducible refine (platenlaw06_bare.calls 118 t841 t842 t843 t844 t845 t846 t847 t848 _ A3.out).mono ?_); rintro e w31 ⟨rfl, hb⟩; refine ⟨_, rfl, ?_⟩; replace HB := bN bz hb; (try clear hb); (try clear hb2); (try clear hk); (try clear hi)) | ((with_reducible refine gate_callee (f := 25) rfl ?_); refine goesL_ (some 14) rfl rfl Tryz.func25 (by kernel_rfl) rfl #[.int .u64 4591870180066957722, .int .i64 64, .agg #[.bool t841, .bool t842, .bool t843, .bool t844, .bool t845, .int .i64 t846, .int .i64 t847, .int .i32 t848]] rfl lz ?_; (with_reducible refine (floats_Float.calls k 4591870180066957722 64 t841 t842 t843 t844 t845 t846 t847 t848 t849 false _ A4.out).mono ?_); rintro e w32 ⟨rfl, hb⟩; refine ⟨_, rfl, ?_⟩; replace HB := bN bz hb; (try clear hb); (try clear hb2); (try clear hk); (try clear hi)) | ((with_reducible refine gate_callee (f := 30) rfl ?_); refine goesL_ (some 18) rfl rfl Tryz.func30 (by kernel_rfl) rfl #[.int .i32 100] rfl lz ?_; (with_reducible refine (platenlaw06_bare.calls 100 t851 t852 t853 t854 t855 t856 t857 t858 _ A5.out).mono ?_); rintro e w33 ⟨rfl, hb⟩; refine ⟨_, rfl, ?_⟩; replace HB := bN bz hb; (try clear hb); (try clear hb2); (try clear hk); (try clear hi)) | ((with_reducible refine gate_callee (f := 25) rfl ?_); refine goesL_ (some 19) rfl rfl Tryz.func25 (by kernel_rfl) rfl #[.int .u64 0, .int .i64 64, .agg #[.bool t851, .bool t852, .bool t853, .bool t854, .bool t855, .int .i64 t856, .int .i64 t857, .int .i32 t858]] rfl lz ?_; (with_reducible refine (floats_Float.calls k 0 64 t851 t852 t853 t854 t855 t856 t857 t858 t859 t860 _ A6.out).mono ?_); rintro e w34 ⟨rfl, hb⟩; refine ⟨_, rfl, ?_⟩; replace HB := bN bz hb; (try clear hb); (try clear hb2); (try clear hk); (try clear hi)))
   go_ret
   exact ⟨ez, bz⟩
 ·replace c7 := Bool.eq_false_iff.mpr c7
  subst c7
  replace H := hF H
  obtain rfl := Option.some.inj H
  go_enter Tryz.func23, Tryz.ntmps23
  go_wp2_with (first | ((with_reducible refine gate_callee (f := 30) rfl ?_); refine goesL_ (some 8) rfl rfl Tryz.func30 (by kernel_rfl) rfl #[.int .i32 101] rfl lz ?_; (with_reducible refine (platenlaw06_bare.calls 101 t831 t832 t833 t834 t835 t836 t837 t838 _ A1.out).mono ?_); rintro e w35 ⟨rfl, hb⟩; refine ⟨_, rfl, ?_⟩; replace HB := bN bz hb; (try clear hb); (try clear hb2); (try clear hk); (try clear hi)) | ((with_reducible refine gate_callee (f := 25) rfl ?_); refine goesL_ (some 9) rfl rfl Tryz.func25 (by kernel_rfl) rfl #[.int .u64 4609434218613702656, .int .i64 64, .agg #[.bool t831, .bool t832, .bool t833, .bool t834, .bool t835, .int .i64 t836, .int .i64 t837, .int .i32 t838]] rfl lz ?_; (with_reducible refine (floats_Float.calls k 4609434218613702656 64 t831 t832 t833 t834 t835 t836 t837 t838 t839 false _ A2.out).mono ?_); rintro e w36 ⟨rfl, hb⟩; refine ⟨_, rfl, ?_⟩; replace HB := bN bz hb; (try clear hb); (try clear hb2); (try clear hk); (try clear hi)) | ((with_reducible refine gate_callee (f := 30) rfl ?_); refine goesL_ (some 13) rfl rfl Tryz.func30 (by kernel_rfl) rfl #[.int .i32 118] rfl lz ?_; (with_reducible refine (platenlaw06_bare.calls 118 t841 t842 t843 t844 t845 t846 t847 t848 _ A3.out).mono ?_); rintro e w37 ⟨rfl, hb⟩; refine ⟨_, rfl, ?_⟩; replace HB := bN bz hb; (try clear hb); (try clear hb2); (try clear hk); (try clear hi)) | ((with_reducible refine gate_callee (f := 25) rfl ?_); refine goesL_ (some 14) rfl rfl Tryz.func25 (by kernel_rfl) rfl #[.int .u64 4591870180066957722, .int .i64 64, .agg #[.bool t841, .bool t842, .bool t843, .bool t844, .bool t845, .int .i64 t846, .int .i64 t847, .int .i32 t848]] rfl lz ?_; (with_reducible refine (floats_Float.calls k 4591870180066957722 64 t841 t842 t843 t844 t845 t846 t847 t848 t849 t850 _ A4.out).mono ?_); rintro e w38 ⟨rfl, hb⟩; refine ⟨_, rfl, ?_⟩; replace HB := bN bz hb; (try clear hb); (try clear hb2); (try clear hk); (try clear hi)) | ((with_reducible refine gate_callee (f := 30) rfl ?_); refine goesL_ (some 18) rfl rfl Tryz.func30 (by kernel_rfl) rfl #[.int .i32 100] rfl lz ?_; (with_reducible refine (platenlaw06_bare.calls 100 t851 t852 t853 t854 t855 t856 t857 t858 _ A5.out).mono ?_); rintro e w39 ⟨rfl, hb⟩; refine ⟨_, rfl, ?_⟩; replace HB := bN bz hb; (try clear hb); (try clear hb2); (try clear hk); (try clear hi)) | ((with_reducible refine gate_callee (f := 25) rfl ?_); refine goesL_ (some 19) rfl rfl Tryz.func25 (by kernel_rfl) rfl #[.int .u64 0, .int .i64 64, .agg #[.bool t851, .bool t852, .bool t853, .bool t854, .bool t855, .int .i64 t856, .int .i64 t857, .int .i32 t858]] rfl lz ?_; (with_reducible refine (floats_Float.calls k 0 64 t851 t852 t853 t854 t855 t856 t857 t858 t859 t860 _ A6.out).mono ?_); rintro e w40 ⟨rfl, hb⟩; refine ⟨_, rfl, ?_⟩; replace HB := bN bz hb; (try clear hb); (try clear hb2); (try clear hk); (try clear hi)))
  go_ret
  exact ⟨ez, bz⟩
end Go.Proofs.YtecpgdfnamkfdaaGreatDoor.Fn
end
section
namespace Go.Proofs.YtecpgdfnamkfdaaGreatDoor.Pure
open Go.RowKit Go.Proofs.YtecpgdfnamkfdaaGreatDoorW.PrintWords Go.Proofs.YtecpgdfnamkfdaaGreatDoorW.PrintLast Go.Proofs.YtecpgdfnamkfdaaGreatDoorW.PrintMore Go.Proofs.YtecpgdfnamkfdaaGreatDoor.Fn
set_option linter.unusedVariables false
set_option linter.unusedSimpArgs false
theorem ex_e : floatS true 4609434218613702656 false false false false false (-1) (-1) 101 = (S [49, 46, 53, 48, 48, 48, 48, 48, 101, 43, 48, 48], true) := by decide +kernel
theorem ex_v : floatS true 4591870180066957722 false false false false false (-1) (-1) 118 = (S [48, 46, 49], true) := by
  have h0 : codeV 118 = 3 := by decide
  have h1 : bareN true 4591870180066957722 = 4591870180066957722 := by decide
  have h2 : (4591870180066957722 : Nat) < ii true := by decide
  unfold floatS
  rw [h1, if_neg (by rw [h0]; decide), if_pos h2]
  have hr : ∀ m e, restL true 4591870180066957722 m e (clamp (-1)) 118 false = [48, 46, 49] := by
    intro m e
    unfold restL genOf shortL
    rw [h0, if_neg (by decide), if_neg (by decide), if_pos rfl, if_pos (by decide), if_neg (by decide), tenth_short]
    decide
  rw [hr]
  decide
theorem lives6 : Ev (fun k => platenlaw06_lives.f k) true := by
  have h1 := float_ev true (a := 4609434218613702656) (by decide) false false false false false (-1) (-1) 101
  rw [ex_e] at h1
  have h2 := float_ev true (a := 4591870180066957722) (by decide) false false false false false (-1) (-1) 118
  rw [ex_v] at h2
  have h3 := float_ev true (a := 0) (by decide) false false false false false (-1) (-1) 100
  rw [show floatS true 0 false false false false false (-1) (-1) 100 = (⟨#[]⟩, false) from rfl] at h3
  unfold platenlaw06_lives.f platenlaw06_bare.f
  simp only [Option.bind_some]
  refine Ev.bind (g := fun k => floats_Float.f k 4609434218613702656 64 false false false false false (-1) (-1) 101) h1 ?_
  refine Ev.bind (g := fun k => floats_Float.f k 4591870180066957722 64 false false false false false (-1) (-1) 118) h2 ?_
  refine Ev.bind (g := fun k => floats_Float.f k 0 64 false false false false false (-1) (-1) 100) h3 ?_
  refine Ev.congr (fun k => ?_) (Ev.now _)
  rw [if_pos rfl, if_pos rfl, if_neg (by simp), if_pos (by rw [toList_L, L_S]), toList_L, L_S]
  rfl
theorem livesEnd6 : Ev (fun k => (platenlaw06_lives.f k).bind fun t => some t) true := Ev.bind lives6 (Ev.now _)
theorem sized6 (wide : Bool) : platenlaw06_sized.f wide = some (szB wide) := by cases wide <;> rfl
def HeadD (l : List UInt8) : Prop := ∃ c t, l = c :: t ∧ 48 ≤ c.toNat ∧ c.toNat ≤ 57
theorem HeadD.app {a : List UInt8} (h : HeadD a) (b : List UInt8) : HeadD (a ++ b) := by
  obtain ⟨c, t, rfl, h1⟩ := h
  exact ⟨c, t ++ b, rfl, h1⟩
theorem dch_dig {n : Nat} (h : n < 10) : 48 ≤ (dch n).toNat ∧ (dch n).toNat ≤ 57 := by
  unfold dch
  rw [if_pos h, UInt8.toNat_ofNat']
  omega
theorem bF_all : ∀ k n, AllD (bF 10 k n)
  | 0, n => fun c hc => by
    rw [bF, List.mem_singleton] at hc
    rw [hc]
    exact dch_dig (Nat.mod_lt _ (by decide))
  | k + 1, n => by
    have hd : AllD [dch (n % 10)] := fun c hc => by
      rw [List.mem_singleton] at hc
      rw [hc]
      exact dch_dig (Nat.mod_lt _ (by decide))
    unfold bF
    split
    · exact hd
    · exact (bF_all k _).append hd
theorem end_none (sign rest : List UInt8) (minus zero : Bool) {wid : Int} (h : wid ≤ 0) : endL sign rest minus zero wid = sign ++ rest := by
  have h1 : (max 0 (min wid 1000) - (sign.length : Int) - (rest.length : Int)).toNat = 0 := by omega
  have h2 : ∀ l : List UInt8, padL l minus false wid = l := by
    intro l
    unfold padL
    rw [show (max 0 (min wid 1000) - (l.length : Int)).toNat = 0 by omega]
    cases minus <;> simp
  unfold endL
  rw [h1, h2]
  split <;> simp
end Go.Proofs.YtecpgdfnamkfdaaGreatDoor.Pure
end
section
namespace Go.Proofs.YtecpgdfnamkfdaaGreatDoor.Pure
open Go.RowKit Go.Proofs.YtecpgdfnamkfdaaGreatDoorW.PrintWords Go.Proofs.YtecpgdfnamkfdaaGreatDoorW.PrintLast Go.Proofs.YtecpgdfnamkfdaaGreatDoorW.PrintMore Go.Proofs.YtecpgdfnamkfdaaGreatDoor.Fn
set_option linter.unusedVariables false
set_option linter.unusedSimpArgs false
theorem bt_mid (P : List UInt8) (c : UInt8) (R : List UInt8) : bt (S (P ++ c :: R)) (P.length : Int) = (c.toNat : Int) := by
  rw [bt_L (S (P ++ c :: R)) P.length (by rw [size_S, List.length_append, List.length_cons]; omega)]
  simp [L_S]
theorem toI_rd (P : List UInt8) (c : UInt8) (R : List UInt8) : rd (toI (P ++ c :: R)) (P.length : Int) = (c.toNat : Int) := by
  rw [← bytesOf_S, rd_bytesOf]
  exact bt_mid P c R
theorem dig_dch {n : Nat} (h : n < 10) : dig (dch n) = n := by
  unfold dig dch
  rw [if_pos h, UInt8.toNat_ofNat']
  omega
theorem val_bF : ∀ k n, n < 10 ^ (k + 1) → val (bF 10 k n) = n
  | 0, n, h => by
    show val ([] ++ [dch (n % 10)]) = n
    rw [val_snoc, val_nil, dig_dch (Nat.mod_lt _ (by decide))]
    simp at h
    omega
  | k + 1, n, h => by
    unfold bF
    split
    · show val ([] ++ [dch (n % 10)]) = n
      rw [val_snoc, val_nil, dig_dch (Nat.mod_lt _ (by decide))]
      omega
    · rw [val_snoc, val_bF k (n / 10) (by rw [Nat.pow_succ] at h; omega), dig_dch (Nat.mod_lt _ (by decide))]
      omega
theorem val_bT {n : Nat} (h : n < 10000) : val (bT 10 n) = n := val_bF 63 n (Nat.lt_of_lt_of_le h (by decide))
theorem val_zsL (n : Nat) (l : List UInt8) : val (zsL n ++ l) = val l := by
  rw [val_append]
  unfold zsL
  rw [val_zeros]
  omega
end Go.Proofs.YtecpgdfnamkfdaaGreatDoor.Pure
end
section
namespace Go.Proofs.YtecpgdfnamkfdaaGreatDoor.Pure
open Go.RowKit Go.Proofs.YtecpgdfnamkfdaaGreatDoorW.PrintWords Go.Proofs.YtecpgdfnamkfdaaGreatDoorW.PrintLast Go.Proofs.YtecpgdfnamkfdaaGreatDoorW.PrintMore Go.Proofs.YtecpgdfnamkfdaaGreatDoor.Fn
set_option linter.unusedVariables false
set_option linter.unusedSimpArgs false
theorem finite6 (wide : Bool) (a : Nat) (ha : a < 18446744073709551616) : ∃ p : Nat, platenlaw06_finite.f (a : Int) (szB wide) = some (p : Int) ∧ p < ii wide := by
  obtain ⟨j, hj, ht, hw⟩ := tt_pow wide
  have htt := tt_le wide
  unfold platenlaw06_finite.f
  rw [hw, mask_one _ hj, and_mask _ _ (by omega) ha, ← ht, if_pos (by omega)]
  have hb := Nat.mod_lt a htt.1
  generalize a % tt wide = q at *
  cases wide
  · have hb2 : q < 2147483648 := hb
    rw [if_pos (show szB false = 32 from rfl)]
    show ∃ p : Nat, _ ∧ p < 2139095040
    by_cases c : (q : Int) ≥ 2139095040
    · refine ⟨q - 2139095040, ?_, by omega⟩
      rw [if_pos c, show ((q : Int) - 2139095040) = ((q - 2139095040 : Nat) : Int) by omega, u64N _ (by omega)]
    · exact ⟨q, by rw [if_neg c], by omega⟩
  · have hb2 : q < 9223372036854775808 := hb
    rw [if_neg (show ¬ szB true = 32 by decide)]
    show ∃ p : Nat, _ ∧ p < 9218868437227405312
    by_cases c : (q : Int) ≥ 9218868437227405312
    · refine ⟨q - 9218868437227405312, ?_, by omega⟩
      rw [if_pos c, show ((q : Int) - 9218868437227405312) = ((q - 9218868437227405312 : Nat) : Int) by omega, u64N _ (by omega)]
    · exact ⟨q, by rw [if_neg c], by omega⟩
end Go.Proofs.YtecpgdfnamkfdaaGreatDoor.Pure
end
section
namespace Go.Proofs.YtecpgdfnamkfdaaGreatDoor.Pure
open Go.RowKit Go.Proofs.YtecpgdfnamkfdaaGreatDoorW.PrintWords Go.Proofs.YtecpgdfnamkfdaaGreatDoorW.PrintLast Go.Proofs.YtecpgdfnamkfdaaGreatDoorW.PrintMore Go.Proofs.YtecpgdfnamkfdaaGreatDoor.Fn
set_option linter.unusedVariables false
set_option linter.unusedSimpArgs false
def HexD (c : UInt8) : Prop := (48 ≤ c.toNat ∧ c.toNat ≤ 57) ∨ (97 ≤ c.toNat ∧ c.toNat ≤ 102)
def AllH (l : List UInt8) : Prop := ∀ c ∈ l, HexD c
def hd (c : UInt8) : Nat := if c.toNat ≤ 57 then c.toNat - 48 else c.toNat - 87
def hvF (a : Nat) : List UInt8 → Nat
  | [] => a
  | c :: l => hvF (16 * a + hd c) l
theorem hvF_add : ∀ (l : List UInt8) (a : Nat), hvF a l = a * 16 ^ l.length + hvF 0 l
  | [], a => by simp [hvF]
  | c :: l, a => by
    rw [hvF, hvF_add l, hvF, hvF_add l (16 * 0 + hd c), List.length_cons, Nat.pow_succ]
    generalize 16 ^ l.length = y
    generalize hvF 0 l = z
    rw [Nat.mul_zero, Nat.zero_add, Nat.add_mul, Nat.mul_comm 16 a, Nat.mul_assoc, Nat.mul_comm 16 y]
    omega
theorem hvF_app : ∀ (l b : List UInt8) (a : Nat), hvF a (l ++ b) = hvF (hvF a l) b
  | [], b, a => rfl
  | c :: l, b, a => by rw [List.cons_append, hvF, hvF, hvF_app l]
theorem hvF_zs (k : Nat) (a : Nat) : hvF a (zsL k) = a * 16 ^ k := by
  have hz : ∀ k, hvF 0 (zsL k) = 0 := by
    intro k
    induction k with
    | zero => rfl
    | succ k ih => exact ih
  rw [hvF_add, hz, zsL_len, Nat.add_zero]
theorem hd_dch {n : Nat} (h : n < 16) : hd (dch n) = n ∧ HexD (dch n) := by
  unfold hd dch HexD
  by_cases c : n < 10
  · rw [if_pos c, UInt8.toNat_ofNat']
    rw [Nat.mod_eq_of_lt (by omega), if_pos (by omega)]
    exact ⟨by omega, .inl ⟨by omega, by omega⟩⟩
  · rw [if_neg c, UInt8.toNat_ofNat']
    rw [Nat.mod_eq_of_lt (by omega), if_neg (by omega)]
    exact ⟨by omega, .inr ⟨by omega, by omega⟩⟩
theorem hv_bF : ∀ k n, n < 16 ^ (k + 1) → hvF 0 (bF 16 k n) = n
  | 0, n, h => by
    show 16 * 0 + hd (dch (n % 16)) = n
    rw [(hd_dch (Nat.mod_lt _ (by decide))).1]
    simp at h
    omega
  | k + 1, n, h => by
    have hm := (hd_dch (Nat.mod_lt n (show 0 < 16 by decide))).1
    unfold bF
    split
    · show 16 * 0 + hd (dch (n % 16)) = n
      rw [hm]
      omega
    · rw [hvF_app, hv_bF k (n / 16) (by rw [Nat.pow_succ] at h; omega)]
      show 16 * (n / 16) + hd (dch (n % 16)) = n
      rw [hm]
      omega
theorem bF_allH : ∀ k n, AllH (bF 16 k n)
  | 0, n => fun c hc => by
    rw [bF, List.mem_singleton] at hc
    rw [hc]
    exact (hd_dch (Nat.mod_lt _ (by decide))).2
  | k + 1, n => fun c hc => by
    unfold bF at hc
    split at hc
    · rw [List.mem_singleton] at hc
      rw [hc]
      exact (hd_dch (Nat.mod_lt _ (by decide))).2
    · rcases List.mem_append.1 hc with hc | hc
      · exact bF_allH k _ c hc
      · rw [List.mem_singleton] at hc
        rw [hc]
        exact (hd_dch (Nat.mod_lt _ (by decide))).2
theorem zs_allH (k : Nat) : AllH (zsL k) := fun c hc => by
  rw [(List.mem_replicate.1 hc).2]
  exact .inl ⟨by decide, by decide⟩
theorem six_allH (n : Nat) : AllH (sixL n) := fun c hc => by
  unfold sixL at hc
  rcases List.mem_append.1 hc with hc | hc
  · exact zs_allH _ c hc
  · exact bF_allH 63 n c hc
theorem hv_six {n : Nat} (hn : n ≤ 18446744073709551615) : hvF 0 (sixL n) = n := by
  unfold sixL
  rw [hvF_app, hvF_zs, Nat.zero_mul]
  exact hv_bF 63 n (Nat.lt_of_le_of_lt hn (by decide))
theorem bF_snoc (b : Nat) : ∀ k n, ∃ Y, bF b k n = Y ++ [dch (n % b)]
  | 0, n => ⟨[], rfl⟩
  | k + 1, n => by
    unfold bF
    split
    · exact ⟨[], rfl⟩
    · exact ⟨_, rfl⟩
theorem rz_six {n : Nat} (hn : n ≤ 18446744073709551615) (h16 : n % 16 = 0) : (rz (sixL n)).length ≤ 15 ∧ hvF 0 (rz (sixL n)) * 16 ^ (16 - (rz (sixL n)).length) = n ∧ AllH (rz (sixL n)) := by
  have hl := sixL_len hn
  have hv := hv_six hn
  obtain ⟨j, hj⟩ := rz_prefix (sixL n)
  have hall : AllH (rz (sixL n)) := fun c hc => six_allH n c (by rw [hj]; exact List.mem_append_left _ hc)
  have hlen : (rz (sixL n)).length + j = 16 := by
    rw [← hl]
    conv => rhs; rw [hj]
    rw [List.length_append, List.length_replicate]
  refine ⟨?_, ?_, hall⟩
  · obtain ⟨Y, hY⟩ := bF_snoc 16 63 n
    have e : sixL n = (zsL (16 - (bT 16 n).length) ++ Y) ++ [dch (n % 16)] := by
      unfold sixL
      rw [show bT 16 n = Y ++ [dch (n % 16)] from hY, List.append_assoc]
    have e2 : rz (sixL n) = rz (zsL (16 - (bT 16 n).length) ++ Y) := by
      rw [e]
      exact rz_snoc_eq (by rw [h16]; rfl)
    have e3 := congrArg List.length e
    rw [hl, List.length_append, List.length_singleton] at e3
    have := length_rz (zsL (16 - (bT 16 n).length) ++ Y)
    rw [e2]
    omega
  · rw [show 16 - (rz (sixL n)).length = j by omega]
    have e : hvF 0 (rz (sixL n) ++ zsL j) = n := by
      rw [show rz (sixL n) ++ zsL j = sixL n from hj.symm]
      exact hv
    rw [hvF_app, hvF_zs] at e
    exact e
theorem exD_two (a : Nat) (e : Int) : exD (a * 2) e = exD a (e + 1) := by
  unfold exD eBase eLim
  by_cases c : e < 0
  · rw [if_pos c, if_pos c]
    obtain ⟨q, hq⟩ : ∃ q, e.natAbs = q + 1 := ⟨e.natAbs - 1, by omega⟩
    have hs := decOf_scale (a * 5 ^ q) 1 (e + 1)
    rw [Nat.pow_one, show e + 1 - ((1 : Nat) : Int) = e by omega] at hs
    have e1 : a * 2 * 5 ^ e.natAbs = a * 5 ^ q * 10 := by
      rw [hq, Nat.pow_succ]
      generalize 5 ^ q = y
      rw [Nat.mul_assoc, Nat.mul_assoc]
      congr 1
      omega
    rw [e1, hs]
    by_cases d : e + 1 < 0
    · rw [if_pos d, if_pos d, show (e + 1).natAbs = q by omega]
    · have : e = -1 := by omega
      subst this
      have : q = 0 := by omega
      subst this
      rfl
  · rw [if_neg c, if_neg c, if_neg (by omega), if_neg (by omega), show (e + 1).natAbs = e.natAbs + 1 by omega, Nat.pow_succ, Nat.mul_assoc, Nat.mul_comm 2]
theorem exD_shift (a : Nat) : ∀ (j : Nat) (e : Int), exD (a * 2 ^ j) e = exD a (e + j)
  | 0, e => by simp
  | j + 1, e => by
    rw [Nat.pow_succ, ← Nat.mul_assoc, exD_two, exD_shift a j, show e + 1 + (j : Int) = e + ((j + 1 : Nat) : Int) by omega]
theorem bitLen_two : ∀ (f m : Nat), m ≠ 0 → m < 2 ^ f → 1 ≤ Lib.bitLenAux f m ∧ 2 ^ (Lib.bitLenAux f m - 1) ≤ m ∧ m < 2 ^ Lib.bitLenAux f m
  | 0, m, h0, h => by simp at h; omega
  | f + 1, m, h0, h => by
    unfold Lib.bitLenAux
    rw [if_neg h0]
    by_cases c : m / 2 = 0
    · have : m = 1 := by omega
      subst this
      have : Lib.bitLenAux f (1 / 2) = 0 := by cases f <;> rfl
      rw [this]
      decide
    · obtain ⟨h1, h2, h3⟩ := bitLen_two f (m / 2) c (by rw [Nat.pow_succ] at h; omega)
      generalize Lib.bitLenAux f (m / 2) = q at *
      obtain ⟨r, rfl⟩ : ∃ r, q = r + 1 := ⟨q - 1, by omega⟩
      rw [show r + 1 - 1 = r by omega] at h2
      rw [show 1 + (r + 1) - 1 = r + 1 by omega, show 1 + (r + 1) = r + 1 + 1 by omega, Nat.pow_succ 2 (r + 1)]
      rw [Nat.pow_succ] at h3 ⊢
      generalize 2 ^ r = y at *
      omega
theorem hex_part {m : Nat} (h0 : m ≠ 0) (hm : m < 9007199254740992) (e : Int) :
    ∃ D : List UInt8, hexL m e (-1) false false = [48, 120] ++ (ptL false [49] D ++ powL [112] (e + Lib.bitLen m - 1) 2) ∧ AllH D ∧ D.length ≤ 15 ∧ hvF 1 D < 2305843009213693952 ∧
      exD (hvF 1 D) (e + Lib.bitLen m - 1 - 4 * (D.length : Int)) = exD m e ∧ 1 ≤ Lib.bitLen m ∧ Lib.bitLen m ≤ 53 := by
  obtain ⟨hb1, hb2, hb3⟩ := bitLen_two 64 m h0 (Nat.lt_of_lt_of_le hm (by decide))
  have hb53 : Lib.bitLen m ≤ 53 := by
    refine Classical.byContradiction fun c => ?_
    have : 2 ^ 53 ≤ 2 ^ (Lib.bitLen m - 1) := Nat.pow_le_pow_right (by decide) (by omega)
    have h53 : (2 : Nat) ^ 53 = 9007199254740992 := by decide
    change 2 ^ (Lib.bitLen m - 1) ≤ m at hb2
    omega
  unfold hexL
  rw [if_neg h0]
  unfold hexTail
  rw [if_pos (by decide)]
  change 1 ≤ Lib.bitLen m at hb1
  change 2 ^ (Lib.bitLen m - 1) ≤ m at hb2
  change m < 2 ^ Lib.bitLen m at hb3
  generalize Lib.bitLen m = n at *
  have hT : m * 2 ^ (64 - n) < 18446744073709551616 := by
    have h1 : m * 2 ^ (64 - n) < 2 ^ n * 2 ^ (64 - n) := Nat.mul_lt_mul_of_pos_right hb3 (Nat.pow_pos (by decide))
    rw [← Nat.pow_add, show n + (64 - n) = 64 by omega] at h1
    exact h1
  have hT2 : 9223372036854775808 ≤ m * 2 ^ (64 - n) := by
    have h1 : 2 ^ (n - 1) * 2 ^ (64 - n) ≤ m * 2 ^ (64 - n) := Nat.mul_le_mul_right _ hb2
    rw [← Nat.pow_add, show n - 1 + (64 - n) = 63 by omega] at h1
    exact h1
  have hdiv : m * 2 ^ (64 - n) % 2048 = 0 := by
    have : 2 ^ (64 - n) = 2048 * 2 ^ (53 - n) := by
      rw [show (2048 : Nat) = 2 ^ 11 by decide, ← Nat.pow_add]
      congr 1
      omega
    rw [this, ← Nat.mul_assoc, Nat.mul_comm m 2048, Nat.mul_assoc]
    exact Nat.mul_mod_right _ _
  have hpw : m * 2 ^ (65 - n) = m * 2 ^ (64 - n) * 2 := by
    rw [show 65 - n = 64 - n + 1 by omega, Nat.pow_succ, Nat.mul_assoc]
  generalize hX : m * 2 ^ (64 - n) = X at *
  rw [Nat.mod_eq_of_lt hT]
  obtain ⟨P, hP⟩ : ∃ P, X * 2 % 18446744073709551616 = P := ⟨_, rfl⟩
  have hP2 : X * 2 = 18446744073709551616 + P := by omega
  have hP16 : P % 16 = 0 := by omega
  have hPl : P ≤ 18446744073709551615 := by omega
  obtain ⟨r1, r2, r3⟩ := rz_six hPl hP16
  have hend : ∀ x, hexEnd false false [49] (rz (sixL P)) x = [48, 120] ++ (ptL false [49] (rz (sixL P)) ++ powL [112] x 2) := fun x => rfl
  rw [hP]
  refine ⟨rz (sixL P), hend _, r3, r1, ?_, ?_, hb1, hb53⟩
  · rw [hvF_add, Nat.one_mul]
    generalize hvF 0 (rz (sixL P)) = v at *
    have hk : (16 : Nat) ^ (rz (sixL P)).length * 16 ^ (16 - (rz (sixL P)).length) = 18446744073709551616 := by
      rw [← Nat.pow_add, show (rz (sixL P)).length + (16 - (rz (sixL P)).length) = 16 by omega]
    have hk1 : 16 ≤ (16 : Nat) ^ (16 - (rz (sixL P)).length) := Nat.pow_le_pow_right (n := 16) (by decide) (show 1 ≤ 16 - (rz (sixL P)).length by omega)
    generalize (16 : Nat) ^ (rz (sixL P)).length = A at *
    generalize (16 : Nat) ^ (16 - (rz (sixL P)).length) = B at *
    have h1 : A * 16 ≤ A * B := Nat.mul_le_mul_left _ hk1
    have h2 : v * 16 ≤ v * B := Nat.mul_le_mul_left _ hk1
    omega
  · have hk : (hvF 1 (rz (sixL P))) * 2 ^ (4 * (16 - (rz (sixL P)).length)) = m * 2 ^ (65 - n) := by
      rw [hvF_add, Nat.one_mul, hpw, hP2, Nat.pow_mul, show (2 : Nat) ^ 4 = 16 by decide, Nat.add_mul, r2, ← Nat.pow_add, show (rz (sixL P)).length + (16 - (rz (sixL P)).length) = 16 by omega]
    have h1 := exD_shift (hvF 1 (rz (sixL P))) (4 * (16 - (rz (sixL P)).length)) (e + n - 1 - 64)
    have h2 := exD_shift m (65 - n) (e + n - 1 - 64)
    rw [hk, h2] at h1
    rw [show e + (n : Int) - 1 - 64 + ((65 - n : Nat) : Int) = e by omega] at h1
    rw [h1]
    congr 1
    omega
end Go.Proofs.YtecpgdfnamkfdaaGreatDoor.Pure
end
section
namespace Go.Proofs.YtecpgdfnamkfdaaGreatDoor.Fn
open Go.RowKit Go.Proofs.YtecpgdfnamkfdaaGreatDoorW.PrintWords Go.Proofs.YtecpgdfnamkfdaaGreatDoorW.PrintLast Go.Proofs.YtecpgdfnamkfdaaGreatDoorW.PrintMore
attribute [local go_sem] fnW_0 fnW_1 fnW_2 fnW_3 fnW_4 fnW_5 fnW_guard fnW_eql max2_int min2_int max_two min_two
set_option linter.unusedVariables false
set_option linter.unusedSimpArgs false
attribute [local go_sem high] eqA42
mutual
def platenlaw06_FloatsHexBack.j0 : Nat → Int → Int → ByteArray → Bool → Option (Bool)
 | 0, _, _, _, _ => none
 | k + 1, x6, x7, x9, x55 => if x55 = true then (some false) else (platenlaw06_FloatsHexBack.l0 k x6 x7 x9 0 0 2)
def platenlaw06_FloatsHexBack.l0 : Nat → Int → Int → ByteArray → Int → Int → Int → Option (Bool)
 | 0, _, _, _, _, _, _ => none
 | k + 1, x6, x7, x9, x11, x12, x13 => if x13 < (x9.size : Int) then (if 0 ≤ x13 then (platenlaw06_FloatsHexBack.j2 k x6 x7 x9 x11 x12 x13 ((bt x9 x13) != 112)) else (none)) else (platenlaw06_FloatsHexBack.j2 k x6 x7 x9 x11 x12 x13 false)
def platenlaw06_FloatsHexBack.j2 : Nat → Int → Int → ByteArray → Int → Int → Int → Bool → Option (Bool)
 | 0, _, _, _, _, _, _, _ => none
 | k + 1, x6, x7, x9, x11, x12, x13, x65 => if x65 = true then (if 0 ≤ x13 then (if x13 < (x9.size : Int) then (if (bt x9 x13) = 46 then (platenlaw06_FloatsHexBack.l0 k x6 x7 x9 x11 x12 (wrap64 (x13 + 1))) else (if (bt x9 x13) ≥ 48 then (platenlaw06_FloatsHexBack.j3 k x6 x7 x9 x11 x12 x13 (bt x9 x13) (decide ((bt x9 x13) ≤ 57))) else (platenlaw06_FloatsHexBack.j3 k x6 x7 x9 x11 x12 x13 (bt x9 x13) false))) else (none)) else (none)) else (if (wrap64 (x13 + 4)) > (x9.size : Int) then (some false) else (if 0 ≤ (wrap64 (x13 + 2)) then (if (wrap64 (x13 + 2)) ≤ (x9.size : Int) then (if (x9.extract ((wrap64 (x13 + 2)) : Int).toNat x9.size).size ≤ 9223372036854775807 then ((some (bytesOf (x9.extract ((wrap64 (x13 + 2)) : Int).toNat x9.size) : List Int)).bind fun y1051 => (platenlaw06_FloatsHexBack.l1 k x6 x7 x9 x11 x12 x13 0 y1051 (y1051.length : Int) 0)) else (none)) else (none)) else (none)))
def platenlaw06_FloatsHexBack.j3 : Nat → Int → Int → ByteArray → Int → Int → Int → Int → Bool → Option (Bool)
 | 0, _, _, _, _, _, _, _, _ => none
 | k + 1, x6, x7, x9, x11, x12, x13, x14, x74 => if x74 = true then (if x13 > 2 then (platenlaw06_FloatsHexBack.l0 k x6 x7 x9 (IntKind.u64.wrap ((IntKind.u64.wrap (16 * x11)) + ((x14 - 48) % 256))) (wrap64 (x12 - 4)) (wrap64 (x13 + 1))) else (platenlaw06_FloatsHexBack.l0 k x6 x7 x9 (IntKind.u64.wrap ((IntKind.u64.wrap (16 * x11)) + ((x14 - 48) % 256))) x12 (wrap64 (x13 + 1)))) else (if x14 ≥ 97 then (platenlaw06_FloatsHexBack.j4 k x6 x7 x9 x11 x12 x13 x14 (decide (x14 ≤ 102))) else (platenlaw06_FloatsHexBack.j4 k x6 x7 x9 x11 x12 x13 x14 false))
def platenlaw06_FloatsHexBack.j4 : Nat → Int → Int → ByteArray → Int → Int → Int → Int → Bool → Option (Bool)
 | 0, _, _, _, _, _, _, _, _ => none
 | k + 1, x6, x7, x9, x11, x12, x13, x14, x87 => if x87 = true then (if x13 > 2 then (platenlaw06_FloatsHexBack.l0 k x6 x7 x9 (IntKind.u64.wrap ((IntKind.u64.wrap ((IntKind.u64.wrap (16 * x11)) + ((x14 - 97) % 256))) + 10)) (wrap64 (x12 - 4)) (wrap64 (x13 + 1))) else (platenlaw06_FloatsHexBack.l0 k x6 x7 x9 (IntKind.u64.wrap ((IntKind.u64.wrap ((IntKind.u64.wrap (16 * x11)) + ((x14 - 97) % 256))) + 10)) x12 (wrap64 (x13 + 1)))) else (some false)
def platenlaw06_FloatsHexBack.l1 : Nat → Int → Int → ByteArray → Int → Int → Int → Int → List Int → Int → Int → Option (Bool)
 | 0, _, _, _, _, _, _, _, _, _, _ => none
 | k + 1, x6, x7, x9, x11, x12, x13, x15, x114, x115, x116 => if x116 < x115 then (if 0 ≤ x116 then (if x116 < (x114.length : Int) then (if (rd x114 x116) < 48 then (some false) else (if (rd x114 x116) > 57 then (some false) else (platenlaw06_FloatsHexBack.l1 k x6 x7 x9 x11 x12 x13 (wrap64 ((wrap64 (10 * x15)) + (((rd x114 x116) - 48) % 256))) x114 x115 (wrap64 (x116 + 1))))) else (none)) else (none)) else (if 0 ≤ (wrap64 (x13 + 1)) then (if (wrap64 (x13 + 1)) < (x9.size : Int) then (if (bt x9 (wrap64 (x13 + 1))) = 45 then ((bigdec_Exact.f k x11 (wrap64 (x12 + (wrap64 (-x15))))).bind fun bt1055 => ((bigdec_Exact.f k x6 x7).bind fun bt1059 => (if bt1055.2.2 = 0 then (if bt1059.2.2 = 0 then (if (bt1055.1.toList == bt1059.1.toList && (bt1055.2.1 == bt1059.2.1)) = true then (if 2 < (x9.size : Int) then (if (((bt x9 2) == 49) == (decide (x6 > 0))) = true then ((platenlaw06_lives.f k).bind fun t1063 => (some t1063)) else (some false)) else (none)) else (some false)) else (some false)) else (some false)))) else ((bigdec_Exact.f k x11 (wrap64 (x12 + x15))).bind fun bt1064 => ((bigdec_Exact.f k x6 x7).bind fun bt1068 => (if bt1064.2.2 = 0 then (if bt1068.2.2 = 0 then (if (bt1064.1.toList == bt1068.1.toList && (bt1064.2.1 == bt1068.2.1)) = true then (if 2 < (x9.size : Int) then (if (((bt x9 2) == 49) == (decide (x6 > 0))) = true then ((platenlaw06_lives.f k).bind fun t1072 => (some t1072)) else (some false)) else (none)) else (some false)) else (some false)) else (some false))))) else (none)) else (none))
end
def platenlaw06_FloatsHexBack.f (k : Nat) (a0_0 : Int) (a0_1 : Bool) : Option (Bool) := (platenlaw06_sized.f a0_1).bind fun t1035 => ((platenlaw06_finite.f a0_0 t1035).bind fun t1036 => ((short_Parts.f t1036 t1035).bind fun bt1037 => ((platenlaw06_bare.f 120).bind fun bt1041 => ((floats_Float.f k t1036 t1035 bt1041.1 bt1041.2.1 bt1041.2.2.1 bt1041.2.2.2.1 bt1041.2.2.2.2.1 bt1041.2.2.2.2.2.1 bt1041.2.2.2.2.2.2.1 bt1041.2.2.2.2.2.2.2).bind fun bt1049 => (if bt1049.2 = true then (if (bt1049.1.size : Int) < 7 then (platenlaw06_FloatsHexBack.j0 k bt1037.2.1 bt1037.2.2.1 bt1049.1 true) else (if 0 ≤ 2 then (if 2 ≤ (bt1049.1.size : Int) then (platenlaw06_FloatsHexBack.j0 k bt1037.2.1 bt1037.2.2.1 bt1049.1 ((bt1049.1.extract 0 2).toList != ([48, 120] : List UInt8))) else (none)) else (none))) else (platenlaw06_FloatsHexBack.j0 k bt1037.2.1 bt1037.2.2.1 bt1049.1 true))))))
set_option maxHeartbeats 8000000 in
set_option maxRecDepth 100000 in
theorem platenlaw06_FloatsHexBack.calls (k : Nat) (a0_0 : Int) (a0_1 : Bool) (r : Bool) (w : World) (h : platenlaw06_FloatsHexBack.f k a0_0 a0_1 = some r) :
  Calls Tryz.prog 11 #[.agg #[.int .u64 a0_0, .bool a0_1]] w fun e w' => e = .returned (.bool r) ∧ Below w.heap.size w w' := by
 have hu24 := Tryz.underlying24
 have hu42 := Tryz.underlying42
 have HB := Aside0.mk (Below.refl w.heap.size w)
 have H : ((platenlaw06_sized.f a0_1).bind fun t1035 => ((platenlaw06_finite.f a0_0 t1035).bind fun t1036 => ((short_Parts.f t1036 t1035).bind fun bt1037 => ((platenlaw06_bare.f 120).bind fun bt1041 => ((floats_Float.f k t1036 t1035 bt1041.1 bt1041.2.1 bt1041.2.2.1 bt1041.2.2.2.1 bt1041.2.2.2.2.1 bt1041.2.2.2.2.2.1 bt1041.2.2.2.2.2.2.1 bt1041.2.2.2.2.2.2.2).bind fun bt1049 => (if bt1049.2 = true then (if (bt1049.1.size : Int) < 7 then (platenlaw06_FloatsHexBack.j0 k bt1037.2.1 bt1037.2.2.1 bt1049.1 true) else (if 0 ≤ 2 then (if 2 ≤ (bt1049.1.size : Int) then (platenlaw06_FloatsHexBack.j0 k bt1037.2.1 bt1037.2.2.1 bt1049.1 ((bt1049.1.extract 0 2).toList != ([48, 120] : List UInt8))) else (none)) else (none))) else (platenlaw06_FloatsHexBack.j0 k bt1037.2.1 bt1037.2.2.1 bt1049.1 true))))))) = some r := h
 clear h
 replace H := bs H
 obtain ⟨t1035, A2, H⟩ := H
 replace H := bs H
 obtain ⟨t1036, A3, H⟩ := H
 replace H := bs H
 obtain ⟨⟨t1037, t1038, t1039, t1040⟩, A4, H⟩ := H
 dsimp only at H
 replace H := bs H
 obtain ⟨⟨t1041, t1042, t1043, t1044, t1045, t1046, t1047, t1048⟩, A5, H⟩ := H
 dsimp only at H
 replace H := bs H
 obtain ⟨⟨t1049, t1050⟩, A6, H⟩ := H
 dsimp only at H
 have HC7 := Aside0.mk H
 clear H
 go_enter Tryz.func11, Tryz.ntmps11
 go_upto_region 5 with (first | ((with_reducible refine gate_dst (N := 1) rfl ?_); (try (refine gate_guard (by rfl) ?_; dsimp only)); refine box_event rfl (N := 1) rfl (cs := #[.int .u64 a0_0, .bool a0_1]) (t := 24) gz ?_; intro gb1034 hg w8 hbox hb; have GE1034 := gN bz hg; have BK1034 := Aside0.mk hbox; replace HB := bN bz hb; clear hb hbox hg; obtain ⟨hcz9_0, hcz9_1, hfz9_0, hfz9_1⟩ := cz2 (W := w8) BK1034) | ((with_reducible refine gate_callee (f := 21) rfl ?_); refine goesL_ (some 24) rfl rfl Tryz.func21 (by kernel_rfl) rfl #[.bool a0_1] rfl lz ?_; (with_reducible refine (platenlaw06_sized.calls a0_1 t1035 _ A2.out).mono ?_); rintro e w' ⟨rfl, ⟨nd, rfl⟩⟩; refine ⟨_, rfl, ?_⟩) | ((with_reducible refine gate_callee (f := 28) rfl ?_); refine goesL_ (some 28) rfl rfl Tryz.func28 (by kernel_rfl) rfl #[.int .u64 a0_0, .int .i64 t1035] rfl lz ?_; (with_reducible refine (platenlaw06_finite.calls a0_0 t1035 t1036 _ A3.out).mono ?_); rintro e w' ⟨rfl, ⟨nd, rfl⟩⟩; refine ⟨_, rfl, ?_⟩) | ((with_reducible refine gate_callee (f := 24) rfl ?_); refine goesL_ (some 32) rfl rfl Tryz.func24 (by kernel_rfl) rfl #[.int .u64 t1036, .int .i64 t1035] rfl lz ?_; (with_reducible refine (short_Parts.calls t1036 t1035 t1037 t1038 t1039 t1040 _ A4.out).mono ?_); rintro e w10 ⟨rfl, hb⟩; refine ⟨_, rfl, ?_⟩; replace BK1034 := kN (g := gb1034) (cs := #[.int .u64 a0_0, .bool a0_1]) hb bk; replace HB := bN bz hb; (try clear hb); (try clear hb2); (try clear hk); (try clear hi)) | ((with_reducible refine gate_callee (f := 30) rfl ?_); refine goesL_ (some 40) rfl rfl Tryz.func30 (by kernel_rfl) rfl #[.int .i32 120] rfl lz ?_; (with_reducible refine (platenlaw06_bare.calls 120 t1041 t1042 t1043 t1044 t1045 t1046 t1047 t1048 _ A5.out).mono ?_); rintro e w11 ⟨rfl, hb⟩; refine ⟨_, rfl, ?_⟩; replace BK1034 := kN (g := gb1034) (cs := #[.int .u64 a0_0, .bool a0_1]) hb bk; replace HB := bN bz hb; (try clear hb); (try clear hb2); (try clear hk); (try clear hi)) | ((with_reducible refine gate_callee (f := 25) rfl ?_); refine goesL_ (some 41) rfl rfl Tryz.func25 (by kernel_rfl) rfl #[.int .u64 t1036, .int .i64 t1035, .agg #[.bool t1041, .bool t1042, .bool t1043, .bool t1044, .bool t1045, .int .i64 t1046, .int .i64 t1047, .int .i32 t1048]] rfl lz ?_; (with_reducible refine (floats_Float.calls k t1036 t1035 t1041 t1042 t1043 t1044 t1045 t1046 t1047 t1048 t1049 t1050 _ A6.out).mono ?_); rintro e w12 ⟨rfl, hb⟩; refine ⟨_, rfl, ?_⟩; replace BK1034 := kN (g := gb1034) (cs := #[.int .u64 a0_0, .bool a0_1]) hb bk; replace HB := bN bz hb; (try clear hb); (try clear hb2); (try clear hk); (try clear hi)))
 (try simp only [Act.put, List.setIfInBounds_toArray, List.set_cons_zero, List.set_cons_succ])
 go_cut [55] (fun v55 wc => ∃ (kq : Nat) (x55_6 : Bool), v55 = .bool x55_6 ∧ Aside0 (platenlaw06_FloatsHexBack.j0 kq t1038 t1039 t1049 x55_6 = some r) ∧ Aside0 (kq ≤ k) ∧ Aside0 (wc.heap[gb1034]? = some (.cells #[.int .u64 a0_0, .bool a0_1] 24 (0, 0))) ∧ Aside0 (Below w.heap.size w wc))
 case first =>
  have H := HC7.out
  clear HC7
  by_cases c13 : t1050 = true
  ·subst c13
   replace H := hT H
   by_cases c14 : (t1049.size : Int) < 7
   ·replace H := hE H c14
    have c14b0 := decide_eq_true c14
    have c14b1 : decide (t1049.size < 7) = true := decide_eq_true (by omega)
    clear c14
    try first | rw [c14b0] | rw [c14b1]
    have H' := Aside0.mk H
    clear H
    go_wp2
    go_meet
    case rel => exact ⟨_, (true), rz, H', ⟨by first | omega | exact Nat.le_refl _⟩, ⟨bk⟩, ⟨bz⟩⟩
   ·replace H := hN H c14
    have c14b0 := decide_eq_false c14
    have c14b1 : decide (t1049.size < 7) = false := decide_eq_false (by omega)
    clear c14
    try first | rw [c14b0] | rw [c14b1]
    by_cases c15 : 0 ≤ 2
    ·replace H := hE H c15
     have c15b0 := eq_true c15
     have c15b1 : decide (0 ≤ 2) = true := decide_eq_true c15
     clear c15
     by_cases c16 : 2 ≤ (t1049.size : Int)
     ·replace H := hE H c16
      have c16b0 := eq_true c16
      have c16b1 : decide (2 ≤ (t1049.size : Int)) = true := decide_eq_true c16
      clear c16
      have H' := Aside0.mk H
      clear H
      go_wp2
      go_meet
      case rel => exact ⟨_, (((t1049.extract 0 2).toList != ([48, 120] : List UInt8))), rz, H', ⟨by first | omega | exact Nat.le_refl _⟩, ⟨bk⟩, ⟨bz⟩⟩
     ·replace H := hN H c16
      exact absurd H (by simp)
    ·replace H := hN H c15
     exact absurd H (by simp)
  ·replace c13 := Bool.eq_false_iff.mpr c13
   subst c13
   replace H := hF H
   have H' := Aside0.mk H
   clear H
   go_wp2
   go_meet
   case rel => exact ⟨_, (true), rz, H', ⟨by first | omega | exact Nat.le_refl _⟩, ⟨bk⟩, ⟨bz⟩⟩
 case rest =>
  clear HC7
  try clear c13
  try clear c14
  try clear c14b0
  try clear c14b1
  try clear c15
  try clear c15b0
  try clear c15b1
  try clear c16
  try clear c16b0
  try clear c16b1
  try clear hcz9_0 hcz9_1 hfz9_0 hfz9_1
  obtain ⟨kq, x55_6, rfl, HA, HJ6, BK1034, HB⟩ := hcut
  cases kq with
  | zero => exact absurd HA.out (by simp [platenlaw06_FloatsHexBack.j0])
  | succ kj6 =>
   have H := HA.out
   clear HA
   simp only [platenlaw06_FloatsHexBack.j0] at H
   by_cases c17 : x55_6 = true
   ·subst c17
    replace H := hT H
    obtain rfl := Option.some.inj H
    go_wp2
    go_ret
    exact ⟨ez, bz⟩
   ·replace c17 := Bool.eq_false_iff.mpr c17
    subst c17
    replace H := hF H
    have H' := Aside0.mk H
    clear H
    go_wp2
    go_loopg [11, 12, 13] kj6 (fun kq v11 v12 v13 w' => ∃ (x11_2 : Int) (x12_2 : Int) (x13_2 : Int), v11 = .int .u64 x11_2 ∧ v12 = .int .i64 x12_2 ∧ v13 = .int .i64 x13_2 ∧ Aside0 (platenlaw06_FloatsHexBack.l0 kq t1038 t1039 t1049 x11_2 x12_2 x13_2 = some r) ∧ Aside0 (kq ≤ kj6) ∧ Aside0 (w'.heap[gb1034]? = some (.cells #[.int .u64 a0_0, .bool a0_1] 24 (0, 0))) ∧ Aside0 (Below w.heap.size w w'))
    case atStart => exact ⟨(0), (0), (2), rz, rz, rz, H', ⟨Nat.le_refl _⟩, ⟨bk⟩, ⟨bz⟩⟩
    case round =>
     clear H'
     try clear c13
     try clear c14
     try clear c14b0
     try clear c14b1
     try clear c15
     try clear c15b0
     try clear c15b1
     try clear c16
     try clear c16b0
     try clear c16b1
     try clear c17
     try clear hcz9_0 hcz9_1 hfz9_0 hfz9_1
     obtain ⟨x11_2, x12_2, x13_2, rfl, rfl, rfl, HA, HK2, BK1034, HB⟩ := hrel
     cases gk with
     | zero => exact absurd HA.out (by simp [platenlaw06_FloatsHexBack.l0])
     | succ k2 =>
      have H := HA.out
      clear HA
      simp only [platenlaw06_FloatsHexBack.l0] at H
      have HC18 := Aside0.mk H
      clear H
      go_upto_region 8 with (fail)
      go_cut [65] (fun v65 wc => ∃ (kq : Nat) (x65_17 : Bool), v65 = .bool x65_17 ∧ Aside0 (platenlaw06_FloatsHexBack.j2 kq t1038 t1039 t1049 x11_2 x12_2 x13_2 x65_17 = some r) ∧ Aside0 (kq ≤ k2) ∧ Aside0 (wc.heap[gb1034]? = some (.cells #[.int .u64 a0_0, .bool a0_1] 24 (0, 0))) ∧ Aside0 (Below w.heap.size w wc))
      case first =>
       have H := HC18.out
       clear HC18
       by_cases c19 : x13_2 < (t1049.size : Int)
       ·replace H := hE H c19
        have c19b0 := decide_eq_true c19
        clear c19
        try rw [c19b0]
        by_cases c20 : 0 ≤ x13_2
        ·replace H := hE H c20
         have c20b0 := decide_eq_true c20
         clear c20
         have H' := Aside0.mk H
         clear H
         have p21 : 0 ≤ (x13_2 : Int) := of_decide_eq_true (by first | (with_reducible assumption) | assumption)
         have q21 : x13_2 < (t1049.size : Int) := of_decide_eq_true (by first | (with_reducible assumption) | assumption)
         have hx21 := bt_at t1049 x13_2
         replace p21 := eq_true p21
         replace q21 := eq_true q21
         go_wp2
         go_meet
         case rel => exact ⟨_, (((bt t1049 x13_2) != 112)), rz, H', ⟨by have := HJ6.out; have := HK2.out; first | omega | exact Nat.le_refl _⟩, ⟨bk⟩, ⟨bz⟩⟩
        ·replace H := hN H c20
         exact absurd H (by simp)
       ·replace H := hN H c19
        have c19b0 := decide_eq_false c19
        clear c19
        try rw [c19b0]
        have H' := Aside0.mk H
        clear H
        go_wp2
        go_meet
        case rel => exact ⟨_, (false), rz, H', ⟨by have := HJ6.out; have := HK2.out; first | omega | exact Nat.le_refl _⟩, ⟨bk⟩, ⟨bz⟩⟩
      case rest =>
       clear HC18
       try clear c13
       try clear c14
       try clear c14b0
       try clear c14b1
       try clear c15
       try clear c15b0
       try clear c15b1
       try clear c16
       try clear c16b0
       try clear c16b1
       try clear c17
       try clear c19
       try clear c19b0
       try clear c20
       try clear c20b0
       try clear p21
       try clear q21
       try clear hx21
       try clear hcz9_0 hcz9_1 hfz9_0 hfz9_1
       try clear p21
       try clear q21
       obtain ⟨kq, x65_17, rfl, HA, HJ17, BK1034, HB⟩ := hcut
       cases kq with
       | zero => exact absurd HA.out (by simp [platenlaw06_FloatsHexBack.j2])
       | succ kj17 =>
        have H := HA.out
        clear HA
        simp only [platenlaw06_FloatsHexBack.j2] at H
        by_cases c22 : x65_17 = true
        ·subst c22
         replace H := hT H
         by_cases c23 : 0 ≤ x13_2
         ·replace H := hE H c23
          have c23b0 := decide_eq_true c23
          clear c23
          by_cases c24 : x13_2 < (t1049.size : Int)
          ·replace H := hE H c24
           have c24b0 := decide_eq_true c24
           clear c24
           by_cases c26 : (bt t1049 x13_2) = 46
           ·replace H := hE H c26
            obtain ⟨c26b0, c26b1⟩ := eT c26
            clear c26
            have H' := Aside0.mk H
            clear H
            have p25 : 0 ≤ (x13_2 : Int) := of_decide_eq_true (by first | (with_reducible assumption) | assumption)
            have q25 : x13_2 < (t1049.size : Int) := of_decide_eq_true (by first | (with_reducible assumption) | assumption)
            have hx25 := bt_at t1049 x13_2
            replace p25 := eq_true p25
            replace q25 := eq_true q25
            go_wp2
            go_roundg kj17
            case measure => have := HJ6.out; have := HK2.out; have := HJ17.out; omega
            case rel => exact ⟨(x11_2), (x12_2), (wrap64 (x13_2 + 1)), rz, rz, rz, H', ⟨by have := HJ6.out; have := HK2.out; have := HJ17.out; omega⟩, ⟨bk⟩, ⟨bz⟩⟩
           ·replace H := hN H c26
            obtain ⟨c26b0, c26b1⟩ := eF c26
            have HC27 := Aside0.mk H
            clear H
            have p25 : 0 ≤ (x13_2 : Int) := of_decide_eq_true (by first | (with_reducible assumption) | assumption)
            have q25 : x13_2 < (t1049.size : Int) := of_decide_eq_true (by first | (with_reducible assumption) | assumption)
            have hx25 := bt_at t1049 x13_2
            replace p25 := eq_true p25
            replace q25 := eq_true q25
            go_upto_region 13 with (fail)
            go_cut [74] (fun v74 wc => ∃ (kq : Nat) (x74_26 : Bool), v74 = .bool x74_26 ∧ Aside0 (platenlaw06_FloatsHexBack.j3 kq t1038 t1039 t1049 x11_2 x12_2 x13_2 (bt t1049 x13_2) x74_26 = some r) ∧ Aside0 (kq ≤ kj17) ∧ Aside0 (wc.heap[gb1034]? = some (.cells #[.int .u64 a0_0, .bool a0_1] 24 (0, 0))) ∧ Aside0 (Below w.heap.size w wc))
            case first =>
             have H := HC27.out
             clear HC27
             by_cases c28 : (bt t1049 x13_2) ≥ 48
             ·replace H := hE H c28
              have c28b0 : decide (48 ≤ (bt t1049 x13_2)) = true := decide_eq_true c28
              clear c28
              try rw [c28b0]
              have H' := Aside0.mk H
              clear H
              go_wp2
              go_meet
              case rel => exact ⟨_, (decide ((bt t1049 x13_2) ≤ 57)), rz, H', ⟨by have := HJ6.out; have := HK2.out; have := HJ17.out; first | omega | exact Nat.le_refl _⟩, ⟨bk⟩, ⟨bz⟩⟩
             ·replace H := hN H c28
              have c28b0 : decide (48 ≤ (bt t1049 x13_2)) = false := decide_eq_false c28
              clear c28
              try rw [c28b0]
              have H' := Aside0.mk H
              clear H
              go_wp2
              go_meet
              case rel => exact ⟨_, (false), rz, H', ⟨by have := HJ6.out; have := HK2.out; have := HJ17.out; first | omega | exact Nat.le_refl _⟩, ⟨bk⟩, ⟨bz⟩⟩
            case rest =>
             clear HC27
             try clear c13
             try clear c14
             try clear c14b0
             try clear c14b1
             try clear c15
             try clear c15b0
             try clear c15b1
             try clear c16
             try clear c16b0
             try clear c16b1
             try clear c17
             try clear c19
             try clear c19b0
             try clear c20
             try clear c20b0
             try clear p21
             try clear q21
             try clear hx21
             try clear c22
             try clear c23
             try clear c23b0
             try clear c24
             try clear c24b0
             try clear p25
             try clear q25
             try clear hx25
             try clear c26
             try clear c26b0
             try clear c26b1
             try clear c28
             try clear c28b0
             try clear hcz9_0 hcz9_1 hfz9_0 hfz9_1
             try clear p21
             try clear p25
             try clear q21
             try clear q25
             obtain ⟨kq, x74_26, rfl, HA, HJ26, BK1034, HB⟩ := hcut
             cases kq with
             | zero => exact absurd HA.out (by simp [platenlaw06_FloatsHexBack.j3])
             | succ kj26 =>
              have H := HA.out
              clear HA
              simp only [platenlaw06_FloatsHexBack.j3] at H
              by_cases c29 : x74_26 = true
              ·subst c29
               replace H := hT H
               by_cases c30 : x13_2 > 2
               ·replace H := hE H c30
                have c30b0 : decide (2 < x13_2) = true := decide_eq_true c30
                clear c30
                have H' := Aside0.mk H
                clear H
                go_wp2
                go_roundg kj26
                case measure => have := HJ6.out; have := HK2.out; have := HJ17.out; have := HJ26.out; omega
                case rel => exact ⟨(IntKind.u64.wrap ((IntKind.u64.wrap (16 * x11_2)) + (((bt t1049 x13_2) - 48) % 256))), (wrap64 (x12_2 - 4)), (wrap64 (x13_2 + 1)), rz, rz, rz, H', ⟨by have := HJ6.out; have := HK2.out; have := HJ17.out; have := HJ26.out; omega⟩, ⟨bk⟩, ⟨bz⟩⟩
               ·replace H := hN H c30
                have c30b0 : decide (2 < x13_2) = false := decide_eq_false c30
                clear c30
                have H' := Aside0.mk H
                clear H
                go_wp2
                go_roundg kj26
                case measure => have := HJ6.out; have := HK2.out; have := HJ17.out; have := HJ26.out; omega
                case rel => exact ⟨(IntKind.u64.wrap ((IntKind.u64.wrap (16 * x11_2)) + (((bt t1049 x13_2) - 48) % 256))), (x12_2), (wrap64 (x13_2 + 1)), rz, rz, rz, H', ⟨by have := HJ6.out; have := HK2.out; have := HJ17.out; have := HJ26.out; omega⟩, ⟨bk⟩, ⟨bz⟩⟩
              ·replace c29 := Bool.eq_false_iff.mpr c29
               subst c29
               replace H := hF H
               have HC31 := Aside0.mk H
               clear H
               go_upto_region 15 with (fail)
               go_cut [87] (fun v87 wc => ∃ (kq : Nat) (x87_30 : Bool), v87 = .bool x87_30 ∧ Aside0 (platenlaw06_FloatsHexBack.j4 kq t1038 t1039 t1049 x11_2 x12_2 x13_2 (bt t1049 x13_2) x87_30 = some r) ∧ Aside0 (kq ≤ kj26) ∧ Aside0 (wc.heap[gb1034]? = some (.cells #[.int .u64 a0_0, .bool a0_1] 24 (0, 0))) ∧ Aside0 (Below w.heap.size w wc))
               case first =>
                have H := HC31.out
                clear HC31
                by_cases c32 : (bt t1049 x13_2) ≥ 97
                ·replace H := hE H c32
                 have c32b0 : decide (97 ≤ (bt t1049 x13_2)) = true := decide_eq_true c32
                 clear c32
                 try rw [c32b0]
                 have H' := Aside0.mk H
                 clear H
                 go_wp2
                 go_meet
                 case rel => exact ⟨_, (decide ((bt t1049 x13_2) ≤ 102)), rz, H', ⟨by have := HJ6.out; have := HK2.out; have := HJ17.out; have := HJ26.out; first | omega | exact Nat.le_refl _⟩, ⟨bk⟩, ⟨bz⟩⟩
                ·replace H := hN H c32
                 have c32b0 : decide (97 ≤ (bt t1049 x13_2)) = false := decide_eq_false c32
                 clear c32
                 try rw [c32b0]
                 have H' := Aside0.mk H
                 clear H
                 go_wp2
                 go_meet
                 case rel => exact ⟨_, (false), rz, H', ⟨by have := HJ6.out; have := HK2.out; have := HJ17.out; have := HJ26.out; first | omega | exact Nat.le_refl _⟩, ⟨bk⟩, ⟨bz⟩⟩
               case rest =>
                clear HC31
                try clear c13
                try clear c14
                try clear c14b0
                try clear c14b1
                try clear c15
                try clear c15b0
                try clear c15b1
                try clear c16
                try clear c16b0
                try clear c16b1
                try clear c17
                try clear c19
                try clear c19b0
                try clear c20
                try clear c20b0
                try clear p21
                try clear q21
                try clear hx21
                try clear c22
                try clear c23
                try clear c23b0
                try clear c24
                try clear c24b0
                try clear p25
                try clear q25
                try clear hx25
                try clear c26
                try clear c26b0
                try clear c26b1
                try clear c28
                try clear c28b0
                try clear c29
                try clear c30
                try clear c30b0
                try clear c32
                try clear c32b0
                try clear hcz9_0 hcz9_1 hfz9_0 hfz9_1
                try clear p21
                try clear p25
                try clear q21
                try clear q25
                obtain ⟨kq, x87_30, rfl, HA, HJ30, BK1034, HB⟩ := hcut
                cases kq with
                | zero => exact absurd HA.out (by simp [platenlaw06_FloatsHexBack.j4])
                | succ kj30 =>
                 have H := HA.out
                 clear HA
                 simp only [platenlaw06_FloatsHexBack.j4] at H
                 by_cases c33 : x87_30 = true
                 ·subst c33
                  replace H := hT H
                  by_cases c34 : x13_2 > 2
                  ·replace H := hE H c34
                   have c34b0 : decide (2 < x13_2) = true := decide_eq_true c34
                   clear c34
                   have H' := Aside0.mk H
                   clear H
                   go_wp2
                   go_roundg kj30
                   case measure => have := HJ6.out; have := HK2.out; have := HJ17.out; have := HJ26.out; have := HJ30.out; omega
                   case rel => exact ⟨(IntKind.u64.wrap ((IntKind.u64.wrap ((IntKind.u64.wrap (16 * x11_2)) + (((bt t1049 x13_2) - 97) % 256))) + 10)), (wrap64 (x12_2 - 4)), (wrap64 (x13_2 + 1)), rz, rz, rz, H', ⟨by have := HJ6.out; have := HK2.out; have := HJ17.out; have := HJ26.out; have := HJ30.out; omega⟩, ⟨bk⟩, ⟨bz⟩⟩
                  ·replace H := hN H c34
                   have c34b0 : decide (2 < x13_2) = false := decide_eq_false c34
                   clear c34
                   have H' := Aside0.mk H
                   clear H
                   go_wp2
                   go_roundg kj30
                   case measure => have := HJ6.out; have := HK2.out; have := HJ17.out; have := HJ26.out; have := HJ30.out; omega
                   case rel => exact ⟨(IntKind.u64.wrap ((IntKind.u64.wrap ((IntKind.u64.wrap (16 * x11_2)) + (((bt t1049 x13_2) - 97) % 256))) + 10)), (x12_2), (wrap64 (x13_2 + 1)), rz, rz, rz, H', ⟨by have := HJ6.out; have := HK2.out; have := HJ17.out; have := HJ26.out; have := HJ30.out; omega⟩, ⟨bk⟩, ⟨bz⟩⟩
                 ·replace c33 := Bool.eq_false_iff.mpr c33
                  subst c33
                  replace H := hF H
                  obtain rfl := Option.some.inj H
                  go_wp2
                  go_ret
                  exact ⟨ez, bz⟩
          ·replace H := hN H c24
           exact absurd H (by simp)
         ·replace H := hN H c23
          exact absurd H (by simp)
        ·replace c22 := Bool.eq_false_iff.mpr c22
         subst c22
         replace H := hF H
         by_cases c35 : (wrap64 (x13_2 + 4)) > (t1049.size : Int)
         ·replace H := hE H c35
          have c35b0 : decide ((t1049.size : Int) < (wrap64 (x13_2 + 4))) = true := decide_eq_true c35
          clear c35
          obtain rfl := Option.some.inj H
          go_wp2
          go_ret
          exact ⟨ez, bz⟩
         ·replace H := hN H c35
          have c35b0 : decide ((t1049.size : Int) < (wrap64 (x13_2 + 4))) = false := decide_eq_false c35
          clear c35
          obtain ⟨ji36, hji36⟩ : ∃ j_ : Int, (wrap64 (x13_2 + 2)) = j_ := ⟨_, rfl⟩
          (first | rw [hji36] at H | simp only [hji36] at H)
          have hji36w : (IntKind.i64.wrap (x13_2 + 2)) = ji36 := (i64_w _).trans hji36
          by_cases c37 : 0 ≤ (ji36)
          ·replace H := hE H c37
           have c37b0 := eq_true c37
           have c37b1 : decide (0 ≤ (ji36)) = true := decide_eq_true c37
           clear c37
           by_cases c38 : (ji36) ≤ (t1049.size : Int)
           ·replace H := hE H c38
            have c38b0 := eq_true c38
            have c38b1 : decide ((ji36) ≤ (t1049.size : Int)) = true := decide_eq_true c38
            clear c38
            by_cases c39 : (t1049.extract ((ji36) : Int).toNat t1049.size).size ≤ 9223372036854775807
            ·replace H := hE H c39
             have c39b0 := eq_true c39
             have c39b1 : decide ((t1049.extract ((ji36) : Int).toNat t1049.size).size ≤ 9223372036854775807) = true := decide_eq_true c39
             try have c39b2 : (9223372036854775807 < (t1049.extract ((ji36) : Int).toNat t1049.size).size) = False := eq_false (Nat.not_lt.2 c39)
             clear c39
             obtain ⟨y1051, hy1051⟩ : ∃ y_ : List Int, y_ = (bytesOf (t1049.extract ((ji36) : Int).toNat t1049.size)) := ⟨_, rfl⟩
             replace H : (platenlaw06_FloatsHexBack.l1 kj17 t1038 t1039 t1049 x11_2 x12_2 x13_2 0 y1051 (y1051.length : Int) 0) = some r := by first | (rw [hy1051]; with_reducible exact H) | (have H2_ := (Option.bind_some _ _).symm.trans H; rw [hy1051]; with_reducible exact H2_) | (have H2_ := (Option.bind_some _ _).symm.trans H; with_reducible exact H2_) | with_reducible exact H | (rw [hy1051]; exact H) | exact H
             have Ny1051 := Aside0.mk hy1051
             clear hy1051
             have H' := Aside0.mk H
             clear H
             go_wp2_with (first | ((with_reducible refine gate_dst (N := 114) rfl ?_); (try (refine gate_guard (by rfl) ?_; dsimp only)); refine Kd.V_conv _ rfl (N := 114) rfl 9 51 5 _ rfl (t1049.extract ((ji36) : Int).toNat t1049.size) rfl Tryz.underlying9 Tryz.underlying51 Tryz.underlying5 (of_decide_eq_true (by first | (with_reducible assumption) | assumption)) (ok := fun k_ => wc.heap.size ≤ k_) (Nat.le_refl _) (Below.refl _ _) (Nat.le_refl _) ?_; intro v1052 w40 ho41 hb hg_ hnew_; clear hg_ hnew_; (first | rw [← Ny1051.out] at ho41 | (simp only [Int.reduceToNat] at ho41; rw [← Ny1051.out] at ho41)); have n0_ := Aside0.mk (Kd.V_lower (Kd.V_mono (ok' := fun k_ => k_ ≠ gb1034) ho41 (fun k_ hk_ => (Kd.freshB (g := gb1034) (o := .cells #[.int .u64 a0_0, .bool a0_1] 24 (0, 0)) bk k_ hk_))) (below_size bz)); have n1_ := Aside0.mk (blk_below (g := gb1034) (o := .cells #[.int .u64 a0_0, .bool a0_1] 24 (0, 0)) bk hb); have n2_ := Aside0.mk (below_step bz hb); clear BK1034; clear HB; have HO1053 := n0_; have BK1034 := n1_; have HB := n2_; clear n0_ n1_ n2_; clear hb ho41; obtain ⟨Ao42, co42, eo42⟩ := Kd.V_slice HO1053.out; subst eo42))
             go_loopg [15, 116] kj17 (fun kq v15 v116 w' => ∃ (x15_4 : Int) (x116_4 : Int), v15 = .int .i64 x15_4 ∧ v116 = .int .i64 x116_4 ∧ Aside0 (platenlaw06_FloatsHexBack.l1 kq t1038 t1039 t1049 x11_2 x12_2 x13_2 x15_4 y1051 (y1051.length : Int) x116_4 = some r) ∧ Aside0 (kq ≤ kj17) ∧ Aside0 (Kd.V (Kd.int .u8) 5 w' w.heap.size (fun k_ => k_ ≠ gb1034) (.slice Ao42 y1051.length co42) y1051) ∧ Aside0 (w'.heap[gb1034]? = some (.cells #[.int .u64 a0_0, .bool a0_1] 24 (0, 0))) ∧ Aside0 (Below w.heap.size w w'))
             case atStart => exact ⟨(0), (0), rz, rz, H', ⟨Nat.le_refl _⟩, ⟨by (with_reducible repeat (first | apply Kd.V_alloc | apply Kd.V_drewN | apply Kd.V_drew)); exact HO1053.out⟩, ⟨bk⟩, ⟨bz⟩⟩
             case round =>
              clear H'
              try clear c13
              try clear c14
              try clear c14b0
              try clear c14b1
              try clear c15
              try clear c15b0
              try clear c15b1
              try clear c16
              try clear c16b0
              try clear c16b1
              try clear c17
              try clear c19
              try clear c19b0
              try clear c20
              try clear c20b0
              try clear p21
              try clear q21
              try clear hx21
              try clear c22
              try clear c23
              try clear c23b0
              try clear c24
              try clear c24b0
              try clear p25
              try clear q25
              try clear hx25
              try clear c26
              try clear c26b0
              try clear c26b1
              try clear c28
              try clear c28b0
              try clear c29
              try clear c30
              try clear c30b0
              try clear c32
              try clear c32b0
              try clear c33
              try clear c34
              try clear c34b0
              try clear c35
              try clear c35b0
              try clear c37
              try clear c37b0
              try clear c37b1
              try clear c38
              try clear c38b0
              try clear c38b1
              try clear c39
              try clear c39b0
              try clear c39b1
              try clear c39b2
              try clear hcz9_0 hcz9_1 hfz9_0 hfz9_1
              try clear p21
              try clear p25
              try clear q21
              try clear q25
              obtain ⟨x15_4, x116_4, rfl, rfl, HA, HK4, HO_114, BK1034, HB⟩ := hrel
              cases gk with
              | zero => exact absurd HA.out (by simp [platenlaw06_FloatsHexBack.l1])
              | succ k4 =>
               have H := HA.out
               clear HA
               simp only [platenlaw06_FloatsHexBack.l1] at H
               by_cases c43 : x116_4 < (y1051.length : Int)
               ·replace H := hE H c43
                have c43b0 := decide_eq_true c43
                clear c43
                by_cases c44 : 0 ≤ x116_4
                ·replace H := hE H c44
                 have c44b0 := decide_eq_true c44
                 clear c44
                 by_cases c45 : x116_4 < (y1051.length : Int)
                 ·replace H := hE H c45
                  have c45b0 := decide_eq_true c45
                  clear c45
                  by_cases c46 : (rd y1051 x116_4) < 48
                  ·replace H := hE H c46
                   have c46b0 := decide_eq_true c46
                   clear c46
                   obtain rfl := Option.some.inj H
                   have p1054 : 0 ≤ (x116_4 : Int) := of_decide_eq_true (by first | (with_reducible assumption) | assumption)
                   have q1054 : x116_4 < (y1051.length : Int) := of_decide_eq_true (by first | (with_reducible assumption) | assumption)
                   obtain ⟨ad1054, e1054, hx1054_0⟩ := Kd.at_int (Kd.V_reads' HO_114.out).2.2 x116_4 p1054 q1054
                   cases e1054
                   replace p1054 := eq_true p1054
                   replace q1054 := eq_true q1054
                   go_wp2
                   go_ret
                   exact ⟨by first | rfl | (simp [errW_none, errW_some] <;> rfl) | (simp only [← hji36]; first | rfl | (simp [errW_none, errW_some] <;> rfl)) | (simp [*, errW_none, errW_some] <;> rfl), bz⟩
                  ·replace H := hN H c46
                   have c46b0 := decide_eq_false c46
                   clear c46
                   by_cases c47 : (rd y1051 x116_4) > 57
                   ·replace H := hE H c47
                    have c47b0 : decide (57 < (rd y1051 x116_4)) = true := decide_eq_true c47
                    clear c47
                    obtain rfl := Option.some.inj H
                    have p1054 : 0 ≤ (x116_4 : Int) := of_decide_eq_true (by first | (with_reducible assumption) | assumption)
                    have q1054 : x116_4 < (y1051.length : Int) := of_decide_eq_true (by first | (with_reducible assumption) | assumption)
                    obtain ⟨ad1054, e1054, hx1054_0⟩ := Kd.at_int (Kd.V_reads' HO_114.out).2.2 x116_4 p1054 q1054
                    cases e1054
                    replace p1054 := eq_true p1054
                    replace q1054 := eq_true q1054
                    go_wp2
                    go_ret
                    exact ⟨by first | rfl | (simp [errW_none, errW_some] <;> rfl) | (simp only [← hji36]; first | rfl | (simp [errW_none, errW_some] <;> rfl)) | (simp [*, errW_none, errW_some] <;> rfl), bz⟩
                   ·replace H := hN H c47
                    have c47b0 : decide (57 < (rd y1051 x116_4)) = false := decide_eq_false c47
                    clear c47
                    have H' := Aside0.mk H
                    clear H
                    have p1054 : 0 ≤ (x116_4 : Int) := of_decide_eq_true (by first | (with_reducible assumption) | assumption)
                    have q1054 : x116_4 < (y1051.length : Int) := of_decide_eq_true (by first | (with_reducible assumption) | assumption)
                    obtain ⟨ad1054, e1054, hx1054_0⟩ := Kd.at_int (Kd.V_reads' HO_114.out).2.2 x116_4 p1054 q1054
                    cases e1054
                    replace p1054 := eq_true p1054
                    replace q1054 := eq_true q1054
                    go_wp2
                    go_roundg k4
                    case measure => have := HJ6.out; have := HK2.out; have := HJ17.out; have := HK4.out; omega
                    case rel => exact ⟨(wrap64 ((wrap64 (10 * x15_4)) + (((rd y1051 x116_4) - 48) % 256))), (wrap64 (x116_4 + 1)), rz, rz, H', ⟨by have := HJ6.out; have := HK2.out; have := HJ17.out; have := HK4.out; omega⟩, ⟨by (with_reducible repeat (first | apply Kd.V_alloc | apply Kd.V_drewN | apply Kd.V_drew)); exact HO_114.out⟩, ⟨bk⟩, ⟨bz⟩⟩
                 ·replace H := hN H c45
                  exact absurd H (by simp)
                ·replace H := hN H c44
                 exact absurd H (by simp)
               ·replace H := hN H c43
                have c43b0 := decide_eq_false c43
                clear c43
                obtain ⟨ji48, hji48⟩ : ∃ j_ : Int, (wrap64 (x13_2 + 1)) = j_ := ⟨_, rfl⟩
                (first | rw [hji48] at H | simp only [hji48] at H)
                have hji48w : (IntKind.i64.wrap (x13_2 + 1)) = ji48 := (i64_w _).trans hji48
                by_cases c49 : 0 ≤ (ji48)
                ·replace H := hE H c49
                 have c49b0 := decide_eq_true c49
                 clear c49
                 by_cases c50 : (ji48) < (t1049.size : Int)
                 ·replace H := hE H c50
                  have c50b0 := decide_eq_true c50
                  clear c50
                  by_cases c52 : (bt t1049 (ji48)) = 45
                  ·replace H := hE H c52
                   obtain ⟨c52b0, c52b1⟩ := eT c52
                   clear c52
                   replace H := bs H
                   obtain ⟨⟨t1055, t1056, t1057⟩, A53, H⟩ := H
                   dsimp only at H
                   replace H := bs H
                   obtain ⟨⟨t1059, t1060, t1061⟩, A54, H⟩ := H
                   dsimp only at H
                   by_cases c55 : t1057 = 0
                   ·replace H := hE H c55
                    obtain ⟨c55b0, c55b1⟩ := eT c55
                    clear c55
                    by_cases c56 : t1061 = 0
                    ·replace H := hE H c56
                     obtain ⟨c56b0, c56b1⟩ := eT c56
                     clear c56
                     by_cases c57 : (t1055.toList == t1059.toList && (t1056 == t1060)) = true
                     ·replace H := hE H c57
                      have c57b0 : (t1055.toList == t1059.toList && (t1056 == t1060)) = true := c57
                      (try (have c57b1 : decide (t1055.toList = t1059.toList && (t1056 == t1060)) = true := by simpa using c57))
                      (try (have c57b2 : (t1055.toList == t1059.toList && (t1056 == t1060)) = true := by simpa using c57))
                      clear c57
                      by_cases c58 : 2 < (t1049.size : Int)
                      ·replace H := hE H c58
                       have c58b0 := decide_eq_true c58
                       have c58b1 : decide (2 < t1049.size) = true := decide_eq_true (by omega)
                       clear c58
                       by_cases c60 : (((bt t1049 2) == 49) == (decide (t1038 > 0))) = true
                       ·replace H := hE H c60
                        have c60b0 : (((bt t1049 2) == 49) == (decide (t1038 > 0))) = true := c60
                        (try (have c60b1 : decide (((bt t1049 2) == 49) = (decide (t1038 > 0))) = true := by simpa using c60))
                        (try (have c60b2 : (((bt t1049 2) == 49) == (decide (t1038 > 0))) = true := by simpa using c60))
                        clear c60
                        replace H := bs H
                        obtain ⟨t1063, A61, H⟩ := H
                        obtain rfl := Option.some.inj H
                        have p51 : 0 ≤ ((ji48) : Int) := of_decide_eq_true (by first | (with_reducible assumption) | assumption)
                        have q51 : (ji48) < (t1049.size : Int) := of_decide_eq_true (by first | (with_reducible assumption) | assumption)
                        have hx51 := bt_at t1049 (ji48)
                        replace p51 := eq_true p51
                        replace q51 := eq_true q51
                        go_wp2_with (first | ((with_reducible refine gate_callee (f := 29) rfl ?_); refine goesL_ (some 145) rfl rfl Tryz.func29 (by kernel_rfl) rfl #[.int .u64 x11_2, .int .i64 (wrap64 (x12_2 + (wrap64 (-x15_4))))] rfl lz ?_; (with_reducible refine (bigdec_Exact.calls k4 x11_2 (wrap64 (x12_2 + (wrap64 (-x15_4)))) t1055 t1056 t1057 _ A53.out).mono ?_); rintro e w62 ⟨rfl, hb⟩; refine ⟨_, rfl, ?_⟩; have n0_ := Aside0.mk (Kd.V_below (by (with_reducible repeat (first | apply Kd.V_alloc | apply Kd.V_drewN | apply Kd.V_drew)); exact HO_114.out) hb); have n1_ := Aside0.mk (blk_below (g := gb1034) (o := .cells #[.int .u64 a0_0, .bool a0_1] 24 (0, 0)) bk hb); have n2_ := Aside0.mk (below_step bz hb); clear HO_114; clear BK1034; clear HB; have HO_114 := n0_; have BK1034 := n1_; have HB := n2_; clear n0_ n1_ n2_; (try clear hb); (try clear hb2); (try clear hk); (try clear hi)) | ((with_reducible refine gate_dst (N := 18) rfl ?_); (try (refine gate_guard (by rfl) ?_; dsimp only)); refine box_event rfl (N := 18) rfl (cs := #[.string (⟨#[]⟩ : ByteArray), .int .i64 0]) (t := 42) gz ?_; intro gb1058 hg w63 hbox hb; have n0_ := Aside0.mk (Kd.V_below (Kd.V_elderB (by (with_reducible repeat (first | apply Kd.V_alloc | apply Kd.V_drewN | apply Kd.V_drew)); exact HO_114.out) gb1058 (Nat.le_of_eq hg.symm)) hb); have n1_ := Aside0.mk (blk_below (g := gb1034) (o := .cells #[.int .u64 a0_0, .bool a0_1] 24 (0, 0)) bk hb); have n2_ := Aside0.mk (below_step bz hb); have n3_ := Aside0.mk (hbox); have n4_ := Aside0.mk ((by rw [hg]; exact (below_size bz) : w.heap.size ≤ gb1058)); have n5_ := Aside0.mk ((by rw [hg]; exact (below_size bz) : w.heap.size ≤ gb1058)); have n6_ := Aside0.mk ((by rw [hg]; exact Nat.ne_of_lt (blk_lt (g := gb1034) (o := .cells #[.int .u64 a0_0, .bool a0_1] 24 (0, 0)) bk) : gb1034 ≠ gb1058)); have n7_ := Aside0.mk ((by rw [hg]; exact Nat.ne_of_gt (blk_lt (g := gb1034) (o := .cells #[.int .u64 a0_0, .bool a0_1] 24 (0, 0)) bk) : gb1058 ≠ gb1034)); clear HO_114; clear BK1034; clear HB; have HO_114 := n0_; have BK1034 := n1_; have HB := n2_; have BK1058 := n3_; have GW1058 := n4_; have GE1058 := n5_; have NB1034_1058 := n6_; have NB1058_1034 := n7_; clear n0_ n1_ n2_ n3_ n4_ n5_ n6_ n7_; clear hb hbox hg; have hnb64 := NB1058_1034.out; have hnc64 := NB1034_1058.out; obtain ⟨hcz65_0, hcz65_1, hfz65_0, hfz65_1⟩ := cz2 (W := w63) BK1058) | ((with_reducible refine gate_callee (f := 29) rfl ?_); refine goesL_ (some 151) rfl rfl Tryz.func29 (by kernel_rfl) rfl #[.int .u64 t1038, .int .i64 t1039] rfl lz ?_; (with_reducible refine (bigdec_Exact.calls k4 t1038 t1039 t1059 t1060 t1061 _ A54.out).mono ?_); rintro e w66 ⟨rfl, hb⟩; refine ⟨_, rfl, ?_⟩; have n0_ := Aside0.mk (Kd.V_below (by (with_reducible repeat (first | apply Kd.V_alloc | apply Kd.V_drewN | apply Kd.V_drew)); exact (Kd.V_mono (Kd.V_far (p := ⟨gb1058, 1, none⟩) (Kd.V_far (p := ⟨gb1058, 0, none⟩) (Kd.V_mono HO_114.out (fun k_ hk => (⟨hk, hk.2⟩ : _ ∧ k_ ≠ gb1058))) (fun _ hk => hk.2) (.string t1055)) (fun _ hk => hk.2) (.int .i64 t1056)) (fun _ h_ => h_.1))) hb); have n1_ := Aside0.mk (blk_below (g := gb1034) (o := .cells #[.int .u64 a0_0, .bool a0_1] 24 (0, 0)) bk hb); have n2_ := Aside0.mk (blk_below (g := gb1058) (o := .cells #[.string t1055, .int .i64 t1056] 42 (0, 0)) bk hb); have n3_ := Aside0.mk (below_step bz hb); clear HO_114; clear BK1034; clear BK1058; clear HB; have HO_114 := n0_; have BK1034 := n1_; have BK1058 := n2_; have HB := n3_; clear n0_ n1_ n2_ n3_; (try clear hb); (try clear hb2); (try clear hk); (try clear hi)) | ((with_reducible refine gate_dst (N := 20) rfl ?_); (try (refine gate_guard (by rfl) ?_; dsimp only)); refine box_event rfl (N := 20) rfl (cs := #[.string (⟨#[]⟩ : ByteArray), .int .i64 0]) (t := 42) gz ?_; intro gb1062 hg w67 hbox hb; have n0_ := Aside0.mk (Kd.V_below (Kd.V_elderB (by (with_reducible repeat (first | apply Kd.V_alloc | apply Kd.V_drewN | apply Kd.V_drew)); exact HO_114.out) gb1062 (Nat.le_of_eq hg.symm)) hb); have n1_ := Aside0.mk (blk_below (g := gb1034) (o := .cells #[.int .u64 a0_0, .bool a0_1] 24 (0, 0)) bk hb); have n2_ := Aside0.mk (blk_below (g := gb1058) (o := .cells #[.string t1055, .int .i64 t1056] 42 (0, 0)) bk hb); have n3_ := Aside0.mk (below_step bz hb); have n4_ := Aside0.mk (hbox); have n5_ := Aside0.mk ((by rw [hg]; exact (below_size bz) : w.heap.size ≤ gb1062)); have n6_ := Aside0.mk ((by rw [hg]; exact (below_size bz) : w.heap.size ≤ gb1062)); have n7_ := Aside0.mk ((by rw [hg]; exact Nat.ne_of_lt (blk_lt (g := gb1034) (o := .cells #[.int .u64 a0_0, .bool a0_1] 24 (0, 0)) bk) : gb1034 ≠ gb1062)); have n8_ := Aside0.mk ((by rw [hg]; exact Nat.ne_of_gt (blk_lt (g := gb1034) (o := .cells #[.int .u64 a0_0, .bool a0_1] 24 (0, 0)) bk) : gb1062 ≠ gb1034)); have n9_ := Aside0.mk ((by rw [hg]; exact Nat.ne_of_lt (blk_lt (g := gb1058) (o := .cells #[.string t1055, .int .i64 t1056] 42 (0, 0)) bk) : gb1058 ≠ gb1062)); have n10_ := Aside0.mk ((by rw [hg]; exact Nat.ne_of_gt (blk_lt (g := gb1058) (o := .cells #[.string t1055, .int .i64 t1056] 42 (0, 0)) bk) : gb1062 ≠ gb1058)); clear HO_114; clear BK1034; clear BK1058; clear HB; have HO_114 := n0_; have BK1034 := n1_; have BK1058 := n2_; have HB := n3_; have BK1062 := n4_; have GW1062 := n5_; have GE1062 := n6_; have NB1034_1062 := n7_; have NB1062_1034 := n8_; have NB1058_1062 := n9_; have NB1062_1058 := n10_; clear n0_ n1_ n2_ n3_ n4_ n5_ n6_ n7_ n8_ n9_ n10_; clear hb hbox hg; have hnb68 := NB1062_1034.out; have hnc68 := NB1034_1062.out; have hnb69 := NB1062_1058.out; have hnc69 := NB1058_1062.out; obtain ⟨hcz70_0, hcz70_1, hfz70_0, hfz70_1⟩ := cz2 (W := w67) BK1062; obtain ⟨hcz71_0, hcz71_1, hfz71_0, hfz71_1⟩ := cz2 (W := w67) BK1058; have p59 : 0 ≤ (2 : Int) := (by omega); have q59 : 2 < t1049.size := (by have : (2 : Int) < (t1049.size : Int) := of_decide_eq_true (by first | (with_reducible assumption) | assumption); omega); have hx59 : ∀ h : 2 < t1049.size, ((t1049[2]'h).toNat : Int) = bt t1049 2 := bt_at t1049 2; clear p59; have qi59 : (2 < (t1049.size : Int)) = True := eq_true (of_decide_eq_true (by first | (with_reducible assumption) | assumption)); replace q59 := eq_true q59) | (go_at_call 23; (with_reducible refine (platenlaw06_lives.calls k4  t1063 _ A61.out).mono ?_); rintro e w72 ⟨rfl, hb⟩; have n0_ := Aside0.mk (Kd.V_below (by (with_reducible repeat (first | apply Kd.V_alloc | apply Kd.V_drewN | apply Kd.V_drew)); exact (Kd.V_mono (Kd.V_far (p := ⟨gb1062, 1, none⟩) (Kd.V_far (p := ⟨gb1062, 0, none⟩) (Kd.V_mono HO_114.out (fun k_ hk => (⟨hk, hk.2⟩ : _ ∧ k_ ≠ gb1062))) (fun _ hk => hk.2) (.string t1059)) (fun _ hk => hk.2) (.int .i64 t1060)) (fun _ h_ => h_.1))) hb); have n1_ := Aside0.mk (blk_below (g := gb1034) (o := .cells #[.int .u64 a0_0, .bool a0_1] 24 (0, 0)) bk hb); have n2_ := Aside0.mk (blk_below (g := gb1058) (o := .cells #[.string t1055, .int .i64 t1056] 42 (0, 0)) bk hb); have n3_ := Aside0.mk (blk_below (g := gb1062) (o := .cells #[.string t1059, .int .i64 t1060] 42 (0, 0)) bk hb); have n4_ := Aside0.mk (below_step bz hb); clear HO_114; clear BK1034; clear BK1058; clear BK1062; clear HB; have HO_114 := n0_; have BK1034 := n1_; have BK1058 := n2_; have BK1062 := n3_; have HB := n4_; clear n0_ n1_ n2_ n3_ n4_; (try clear hb); (try clear hb2); (try clear hk); (try clear hi)))
                        go_ret
                        exact ⟨by first | rfl | (simp [errW_none, errW_some] <;> rfl) | (simp only [← hji36, ← hji48]; first | rfl | (simp [errW_none, errW_some] <;> rfl)) | (simp [*, errW_none, errW_some] <;> rfl), bz⟩
                       ·replace H := hN H c60
                        have c60b0 : (((bt t1049 2) == 49) == (decide (t1038 > 0))) = false := by simpa using c60
                        (try (have c60b1 : decide (((bt t1049 2) == 49) = (decide (t1038 > 0))) = false := by simpa using c60))
                        (try (have c60b2 : (((bt t1049 2) == 49) == (decide (t1038 > 0))) = false := by simpa using c60))
                        (try (have c60b3 : ¬ (((bt t1049 2) == 49) = (decide (t1038 > 0))) := by simpa using c60))
                        clear c60
                        obtain rfl := Option.some.inj H
                        have p51 : 0 ≤ ((ji48) : Int) := of_decide_eq_true (by first | (with_reducible assumption) | assumption)
                        have q51 : (ji48) < (t1049.size : Int) := of_decide_eq_true (by first | (with_reducible assumption) | assumption)
                        have hx51 := bt_at t1049 (ji48)
                        replace p51 := eq_true p51
                        replace q51 := eq_true q51
                        go_wp2_with (first | ((with_reducible refine gate_callee (f := 29) rfl ?_); refine goesL_ (some 145) rfl rfl Tryz.func29 (by kernel_rfl) rfl #[.int .u64 x11_2, .int .i64 (wrap64 (x12_2 + (wrap64 (-x15_4))))] rfl lz ?_; (with_reducible refine (bigdec_Exact.calls k4 x11_2 (wrap64 (x12_2 + (wrap64 (-x15_4)))) t1055 t1056 t1057 _ A53.out).mono ?_); rintro e w73 ⟨rfl, hb⟩; refine ⟨_, rfl, ?_⟩; have n0_ := Aside0.mk (Kd.V_below (by (with_reducible repeat (first | apply Kd.V_alloc | apply Kd.V_drewN | apply Kd.V_drew)); exact HO_114.out) hb); have n1_ := Aside0.mk (blk_below (g := gb1034) (o := .cells #[.int .u64 a0_0, .bool a0_1] 24 (0, 0)) bk hb); have n2_ := Aside0.mk (below_step bz hb); clear HO_114; clear BK1034; clear HB; have HO_114 := n0_; have BK1034 := n1_; have HB := n2_; clear n0_ n1_ n2_; (try clear hb); (try clear hb2); (try clear hk); (try clear hi)) | ((with_reducible refine gate_dst (N := 18) rfl ?_); (try (refine gate_guard (by rfl) ?_; dsimp only)); refine box_event rfl (N := 18) rfl (cs := #[.string (⟨#[]⟩ : ByteArray), .int .i64 0]) (t := 42) gz ?_; intro gb1058 hg w74 hbox hb; have n0_ := Aside0.mk (Kd.V_below (Kd.V_elderB (by (with_reducible repeat (first | apply Kd.V_alloc | apply Kd.V_drewN | apply Kd.V_drew)); exact HO_114.out) gb1058 (Nat.le_of_eq hg.symm)) hb); have n1_ := Aside0.mk (blk_below (g := gb1034) (o := .cells #[.int .u64 a0_0, .bool a0_1] 24 (0, 0)) bk hb); have n2_ := Aside0.mk (below_step bz hb); have n3_ := Aside0.mk (hbox); have n4_ := Aside0.mk ((by rw [hg]; exact (below_size bz) : w.heap.size ≤ gb1058)); have n5_ := Aside0.mk ((by rw [hg]; exact (below_size bz) : w.heap.size ≤ gb1058)); have n6_ := Aside0.mk ((by rw [hg]; exact Nat.ne_of_lt (blk_lt (g := gb1034) (o := .cells #[.int .u64 a0_0, .bool a0_1] 24 (0, 0)) bk) : gb1034 ≠ gb1058)); have n7_ := Aside0.mk ((by rw [hg]; exact Nat.ne_of_gt (blk_lt (g := gb1034) (o := .cells #[.int .u64 a0_0, .bool a0_1] 24 (0, 0)) bk) : gb1058 ≠ gb1034)); clear HO_114; clear BK1034; clear HB; have HO_114 := n0_; have BK1034 := n1_; have HB := n2_; have BK1058 := n3_; have GW1058 := n4_; have GE1058 := n5_; have NB1034_1058 := n6_; have NB1058_1034 := n7_; clear n0_ n1_ n2_ n3_ n4_ n5_ n6_ n7_; clear hb hbox hg; have hnb75 := NB1058_1034.out; have hnc75 := NB1034_1058.out; obtain ⟨hcz76_0, hcz76_1, hfz76_0, hfz76_1⟩ := cz2 (W := w74) BK1058) | ((with_reducible refine gate_callee (f := 29) rfl ?_); refine goesL_ (some 151) rfl rfl Tryz.func29 (by kernel_rfl) rfl #[.int .u64 t1038, .int .i64 t1039] rfl lz ?_; (with_reducible refine (bigdec_Exact.calls k4 t1038 t1039 t1059 t1060 t1061 _ A54.out).mono ?_); rintro e w77 ⟨rfl, hb⟩; refine ⟨_, rfl, ?_⟩; have n0_ := Aside0.mk (Kd.V_below (by (with_reducible repeat (first | apply Kd.V_alloc | apply Kd.V_drewN | apply Kd.V_drew)); exact (Kd.V_mono (Kd.V_far (p := ⟨gb1058, 1, none⟩) (Kd.V_far (p := ⟨gb1058, 0, none⟩) (Kd.V_mono HO_114.out (fun k_ hk => (⟨hk, hk.2⟩ : _ ∧ k_ ≠ gb1058))) (fun _ hk => hk.2) (.string t1055)) (fun _ hk => hk.2) (.int .i64 t1056)) (fun _ h_ => h_.1))) hb); have n1_ := Aside0.mk (blk_below (g := gb1034) (o := .cells #[.int .u64 a0_0, .bool a0_1] 24 (0, 0)) bk hb); have n2_ := Aside0.mk (blk_below (g := gb1058) (o := .cells #[.string t1055, .int .i64 t1056] 42 (0, 0)) bk hb); have n3_ := Aside0.mk (below_step bz hb); clear HO_114; clear BK1034; clear BK1058; clear HB; have HO_114 := n0_; have BK1034 := n1_; have BK1058 := n2_; have HB := n3_; clear n0_ n1_ n2_ n3_; (try clear hb); (try clear hb2); (try clear hk); (try clear hi)) | ((with_reducible refine gate_dst (N := 20) rfl ?_); (try (refine gate_guard (by rfl) ?_; dsimp only)); refine box_event rfl (N := 20) rfl (cs := #[.string (⟨#[]⟩ : ByteArray), .int .i64 0]) (t := 42) gz ?_; intro gb1062 hg w78 hbox hb; have n0_ := Aside0.mk (Kd.V_below (Kd.V_elderB (by (with_reducible repeat (first | apply Kd.V_alloc | apply Kd.V_drewN | apply Kd.V_drew)); exact HO_114.out) gb1062 (Nat.le_of_eq hg.symm)) hb); have n1_ := Aside0.mk (blk_below (g := gb1034) (o := .cells #[.int .u64 a0_0, .bool a0_1] 24 (0, 0)) bk hb); have n2_ := Aside0.mk (blk_below (g := gb1058) (o := .cells #[.string t1055, .int .i64 t1056] 42 (0, 0)) bk hb); have n3_ := Aside0.mk (below_step bz hb); have n4_ := Aside0.mk (hbox); have n5_ := Aside0.mk ((by rw [hg]; exact (below_size bz) : w.heap.size ≤ gb1062)); have n6_ := Aside0.mk ((by rw [hg]; exact (below_size bz) : w.heap.size ≤ gb1062)); have n7_ := Aside0.mk ((by rw [hg]; exact Nat.ne_of_lt (blk_lt (g := gb1034) (o := .cells #[.int .u64 a0_0, .bool a0_1] 24 (0, 0)) bk) : gb1034 ≠ gb1062)); have n8_ := Aside0.mk ((by rw [hg]; exact Nat.ne_of_gt (blk_lt (g := gb1034) (o := .cells #[.int .u64 a0_0, .bool a0_1] 24 (0, 0)) bk) : gb1062 ≠ gb1034)); have n9_ := Aside0.mk ((by rw [hg]; exact Nat.ne_of_lt (blk_lt (g := gb1058) (o := .cells #[.string t1055, .int .i64 t1056] 42 (0, 0)) bk) : gb1058 ≠ gb1062)); have n10_ := Aside0.mk ((by rw [hg]; exact Nat.ne_of_gt (blk_lt (g := gb1058) (o := .cells #[.string t1055, .int .i64 t1056] 42 (0, 0)) bk) : gb1062 ≠ gb1058)); clear HO_114; clear BK1034; clear BK1058; clear HB; have HO_114 := n0_; have BK1034 := n1_; have BK1058 := n2_; have HB := n3_; have BK1062 := n4_; have GW1062 := n5_; have GE1062 := n6_; have NB1034_1062 := n7_; have NB1062_1034 := n8_; have NB1058_1062 := n9_; have NB1062_1058 := n10_; clear n0_ n1_ n2_ n3_ n4_ n5_ n6_ n7_ n8_ n9_ n10_; clear hb hbox hg; have hnb79 := NB1062_1034.out; have hnc79 := NB1034_1062.out; have hnb80 := NB1062_1058.out; have hnc80 := NB1058_1062.out; obtain ⟨hcz81_0, hcz81_1, hfz81_0, hfz81_1⟩ := cz2 (W := w78) BK1062; obtain ⟨hcz82_0, hcz82_1, hfz82_0, hfz82_1⟩ := cz2 (W := w78) BK1058; have p59 : 0 ≤ (2 : Int) := (by omega); have q59 : 2 < t1049.size := (by have : (2 : Int) < (t1049.size : Int) := of_decide_eq_true (by first | (with_reducible assumption) | assumption); omega); have hx59 : ∀ h : 2 < t1049.size, ((t1049[2]'h).toNat : Int) = bt t1049 2 := bt_at t1049 2; clear p59; have qi59 : (2 < (t1049.size : Int)) = True := eq_true (of_decide_eq_true (by first | (with_reducible assumption) | assumption)); replace q59 := eq_true q59))
                        go_ret
                        exact ⟨by first | rfl | (simp [errW_none, errW_some] <;> rfl) | (simp only [← hji36, ← hji48]; first | rfl | (simp [errW_none, errW_some] <;> rfl)) | (simp [*, errW_none, errW_some] <;> rfl), bz⟩
                      ·replace H := hN H c58
                       exact absurd H (by simp)
                     ·replace H := hN H c57
                      have c57b0 : (t1055.toList == t1059.toList && (t1056 == t1060)) = false := by simpa using c57
                      (try (have c57b1 : decide (t1055.toList = t1059.toList && (t1056 == t1060)) = false := by simpa using c57))
                      (try (have c57b2 : (t1055.toList == t1059.toList && (t1056 == t1060)) = false := by simpa using c57))
                      (try (have c57b3 : ¬ (t1055.toList = t1059.toList && (t1056 == t1060)) := by simpa using c57))
                      clear c57
                      obtain rfl := Option.some.inj H
                      have p51 : 0 ≤ ((ji48) : Int) := of_decide_eq_true (by first | (with_reducible assumption) | assumption)
                      have q51 : (ji48) < (t1049.size : Int) := of_decide_eq_true (by first | (with_reducible assumption) | assumption)
                      have hx51 := bt_at t1049 (ji48)
                      replace p51 := eq_true p51
                      replace q51 := eq_true q51
                      go_wp2_with (first | ((with_reducible refine gate_callee (f := 29) rfl ?_); refine goesL_ (some 145) rfl rfl Tryz.func29 (by kernel_rfl) rfl #[.int .u64 x11_2, .int .i64 (wrap64 (x12_2 + (wrap64 (-x15_4))))] rfl lz ?_; (with_reducible refine (bigdec_Exact.calls k4 x11_2 (wrap64 (x12_2 + (wrap64 (-x15_4)))) t1055 t1056 t1057 _ A53.out).mono ?_); rintro e w83 ⟨rfl, hb⟩; refine ⟨_, rfl, ?_⟩; have n0_ := Aside0.mk (Kd.V_below (by (with_reducible repeat (first | apply Kd.V_alloc | apply Kd.V_drewN | apply Kd.V_drew)); exact HO_114.out) hb); have n1_ := Aside0.mk (blk_below (g := gb1034) (o := .cells #[.int .u64 a0_0, .bool a0_1] 24 (0, 0)) bk hb); have n2_ := Aside0.mk (below_step bz hb); clear HO_114; clear BK1034; clear HB; have HO_114 := n0_; have BK1034 := n1_; have HB := n2_; clear n0_ n1_ n2_; (try clear hb); (try clear hb2); (try clear hk); (try clear hi)) | ((with_reducible refine gate_dst (N := 18) rfl ?_); (try (refine gate_guard (by rfl) ?_; dsimp only)); refine box_event rfl (N := 18) rfl (cs := #[.string (⟨#[]⟩ : ByteArray), .int .i64 0]) (t := 42) gz ?_; intro gb1058 hg w84 hbox hb; have n0_ := Aside0.mk (Kd.V_below (Kd.V_elderB (by (with_reducible repeat (first | apply Kd.V_alloc | apply Kd.V_drewN | apply Kd.V_drew)); exact HO_114.out) gb1058 (Nat.le_of_eq hg.symm)) hb); have n1_ := Aside0.mk (blk_below (g := gb1034) (o := .cells #[.int .u64 a0_0, .bool a0_1] 24 (0, 0)) bk hb); have n2_ := Aside0.mk (below_step bz hb); have n3_ := Aside0.mk (hbox); have n4_ := Aside0.mk ((by rw [hg]; exact (below_size bz) : w.heap.size ≤ gb1058)); have n5_ := Aside0.mk ((by rw [hg]; exact (below_size bz) : w.heap.size ≤ gb1058)); have n6_ := Aside0.mk ((by rw [hg]; exact Nat.ne_of_lt (blk_lt (g := gb1034) (o := .cells #[.int .u64 a0_0, .bool a0_1] 24 (0, 0)) bk) : gb1034 ≠ gb1058)); have n7_ := Aside0.mk ((by rw [hg]; exact Nat.ne_of_gt (blk_lt (g := gb1034) (o := .cells #[.int .u64 a0_0, .bool a0_1] 24 (0, 0)) bk) : gb1058 ≠ gb1034)); clear HO_114; clear BK1034; clear HB; have HO_114 := n0_; have BK1034 := n1_; have HB := n2_; have BK1058 := n3_; have GW1058 := n4_; have GE1058 := n5_; have NB1034_1058 := n6_; have NB1058_1034 := n7_; clear n0_ n1_ n2_ n3_ n4_ n5_ n6_ n7_; clear hb hbox hg; have hnb85 := NB1058_1034.out; have hnc85 := NB1034_1058.out; obtain ⟨hcz86_0, hcz86_1, hfz86_0, hfz86_1⟩ := cz2 (W := w84) BK1058) | ((with_reducible refine gate_callee (f := 29) rfl ?_); refine goesL_ (some 151) rfl rfl Tryz.func29 (by kernel_rfl) rfl #[.int .u64 t1038, .int .i64 t1039] rfl lz ?_; (with_reducible refine (bigdec_Exact.calls k4 t1038 t1039 t1059 t1060 t1061 _ A54.out).mono ?_); rintro e w87 ⟨rfl, hb⟩; refine ⟨_, rfl, ?_⟩; have n0_ := Aside0.mk (Kd.V_below (by (with_reducible repeat (first | apply Kd.V_alloc | apply Kd.V_drewN | apply Kd.V_drew)); exact (Kd.V_mono (Kd.V_far (p := ⟨gb1058, 1, none⟩) (Kd.V_far (p := ⟨gb1058, 0, none⟩) (Kd.V_mono HO_114.out (fun k_ hk => (⟨hk, hk.2⟩ : _ ∧ k_ ≠ gb1058))) (fun _ hk => hk.2) (.string t1055)) (fun _ hk => hk.2) (.int .i64 t1056)) (fun _ h_ => h_.1))) hb); have n1_ := Aside0.mk (blk_below (g := gb1034) (o := .cells #[.int .u64 a0_0, .bool a0_1] 24 (0, 0)) bk hb); have n2_ := Aside0.mk (blk_below (g := gb1058) (o := .cells #[.string t1055, .int .i64 t1056] 42 (0, 0)) bk hb); have n3_ := Aside0.mk (below_step bz hb); clear HO_114; clear BK1034; clear BK1058; clear HB; have HO_114 := n0_; have BK1034 := n1_; have BK1058 := n2_; have HB := n3_; clear n0_ n1_ n2_ n3_; (try clear hb); (try clear hb2); (try clear hk); (try clear hi)) | ((with_reducible refine gate_dst (N := 20) rfl ?_); (try (refine gate_guard (by rfl) ?_; dsimp only)); refine box_event rfl (N := 20) rfl (cs := #[.string (⟨#[]⟩ : ByteArray), .int .i64 0]) (t := 42) gz ?_; intro gb1062 hg w88 hbox hb; have n0_ := Aside0.mk (Kd.V_below (Kd.V_elderB (by (with_reducible repeat (first | apply Kd.V_alloc | apply Kd.V_drewN | apply Kd.V_drew)); exact HO_114.out) gb1062 (Nat.le_of_eq hg.symm)) hb); have n1_ := Aside0.mk (blk_below (g := gb1034) (o := .cells #[.int .u64 a0_0, .bool a0_1] 24 (0, 0)) bk hb); have n2_ := Aside0.mk (blk_below (g := gb1058) (o := .cells #[.string t1055, .int .i64 t1056] 42 (0, 0)) bk hb); have n3_ := Aside0.mk (below_step bz hb); have n4_ := Aside0.mk (hbox); have n5_ := Aside0.mk ((by rw [hg]; exact (below_size bz) : w.heap.size ≤ gb1062)); have n6_ := Aside0.mk ((by rw [hg]; exact (below_size bz) : w.heap.size ≤ gb1062)); have n7_ := Aside0.mk ((by rw [hg]; exact Nat.ne_of_lt (blk_lt (g := gb1034) (o := .cells #[.int .u64 a0_0, .bool a0_1] 24 (0, 0)) bk) : gb1034 ≠ gb1062)); have n8_ := Aside0.mk ((by rw [hg]; exact Nat.ne_of_gt (blk_lt (g := gb1034) (o := .cells #[.int .u64 a0_0, .bool a0_1] 24 (0, 0)) bk) : gb1062 ≠ gb1034)); have n9_ := Aside0.mk ((by rw [hg]; exact Nat.ne_of_lt (blk_lt (g := gb1058) (o := .cells #[.string t1055, .int .i64 t1056] 42 (0, 0)) bk) : gb1058 ≠ gb1062)); have n10_ := Aside0.mk ((by rw [hg]; exact Nat.ne_of_gt (blk_lt (g := gb1058) (o := .cells #[.string t1055, .int .i64 t1056] 42 (0, 0)) bk) : gb1062 ≠ gb1058)); clear HO_114; clear BK1034; clear BK1058; clear HB; have HO_114 := n0_; have BK1034 := n1_; have BK1058 := n2_; have HB := n3_; have BK1062 := n4_; have GW1062 := n5_; have GE1062 := n6_; have NB1034_1062 := n7_; have NB1062_1034 := n8_; have NB1058_1062 := n9_; have NB1062_1058 := n10_; clear n0_ n1_ n2_ n3_ n4_ n5_ n6_ n7_ n8_ n9_ n10_; clear hb hbox hg; have hnb89 := NB1062_1034.out; have hnc89 := NB1034_1062.out; have hnb90 := NB1062_1058.out; have hnc90 := NB1058_1062.out; obtain ⟨hcz91_0, hcz91_1, hfz91_0, hfz91_1⟩ := cz2 (W := w88) BK1062; obtain ⟨hcz92_0, hcz92_1, hfz92_0, hfz92_1⟩ := cz2 (W := w88) BK1058))
                      go_ret
                      exact ⟨by first | rfl | (simp [errW_none, errW_some] <;> rfl) | (simp only [← hji36, ← hji48]; first | rfl | (simp [errW_none, errW_some] <;> rfl)) | (simp [*, errW_none, errW_some] <;> rfl), bz⟩
                    ·replace H := hN H c56
                     obtain ⟨c56b0, c56b1⟩ := eF c56
                     obtain rfl := Option.some.inj H
                     have p51 : 0 ≤ ((ji48) : Int) := of_decide_eq_true (by first | (with_reducible assumption) | assumption)
                     have q51 : (ji48) < (t1049.size : Int) := of_decide_eq_true (by first | (with_reducible assumption) | assumption)
                     have hx51 := bt_at t1049 (ji48)
                     replace p51 := eq_true p51
                     replace q51 := eq_true q51
                     go_wp2_with (first | ((with_reducible refine gate_callee (f := 29) rfl ?_); refine goesL_ (some 145) rfl rfl Tryz.func29 (by kernel_rfl) rfl #[.int .u64 x11_2, .int .i64 (wrap64 (x12_2 + (wrap64 (-x15_4))))] rfl lz ?_; (with_reducible refine (bigdec_Exact.calls k4 x11_2 (wrap64 (x12_2 + (wrap64 (-x15_4)))) t1055 t1056 t1057 _ A53.out).mono ?_); rintro e w93 ⟨rfl, hb⟩; refine ⟨_, rfl, ?_⟩; have n0_ := Aside0.mk (Kd.V_below (by (with_reducible repeat (first | apply Kd.V_alloc | apply Kd.V_drewN | apply Kd.V_drew)); exact HO_114.out) hb); have n1_ := Aside0.mk (blk_below (g := gb1034) (o := .cells #[.int .u64 a0_0, .bool a0_1] 24 (0, 0)) bk hb); have n2_ := Aside0.mk (below_step bz hb); clear HO_114; clear BK1034; clear HB; have HO_114 := n0_; have BK1034 := n1_; have HB := n2_; clear n0_ n1_ n2_; (try clear hb); (try clear hb2); (try clear hk); (try clear hi)) | ((with_reducible refine gate_dst (N := 18) rfl ?_); (try (refine gate_guard (by rfl) ?_; dsimp only)); refine box_event rfl (N := 18) rfl (cs := #[.string (⟨#[]⟩ : ByteArray), .int .i64 0]) (t := 42) gz ?_; intro gb1058 hg w94 hbox hb; have n0_ := Aside0.mk (Kd.V_below (Kd.V_elderB (by (with_reducible repeat (first | apply Kd.V_alloc | apply Kd.V_drewN | apply Kd.V_drew)); exact HO_114.out) gb1058 (Nat.le_of_eq hg.symm)) hb); have n1_ := Aside0.mk (blk_below (g := gb1034) (o := .cells #[.int .u64 a0_0, .bool a0_1] 24 (0, 0)) bk hb); have n2_ := Aside0.mk (below_step bz hb); have n3_ := Aside0.mk (hbox); have n4_ := Aside0.mk ((by rw [hg]; exact (below_size bz) : w.heap.size ≤ gb1058)); have n5_ := Aside0.mk ((by rw [hg]; exact (below_size bz) : w.heap.size ≤ gb1058)); have n6_ := Aside0.mk ((by rw [hg]; exact Nat.ne_of_lt (blk_lt (g := gb1034) (o := .cells #[.int .u64 a0_0, .bool a0_1] 24 (0, 0)) bk) : gb1034 ≠ gb1058)); have n7_ := Aside0.mk ((by rw [hg]; exact Nat.ne_of_gt (blk_lt (g := gb1034) (o := .cells #[.int .u64 a0_0, .bool a0_1] 24 (0, 0)) bk) : gb1058 ≠ gb1034)); clear HO_114; clear BK1034; clear HB; have HO_114 := n0_; have BK1034 := n1_; have HB := n2_; have BK1058 := n3_; have GW1058 := n4_; have GE1058 := n5_; have NB1034_1058 := n6_; have NB1058_1034 := n7_; clear n0_ n1_ n2_ n3_ n4_ n5_ n6_ n7_; clear hb hbox hg; have hnb95 := NB1058_1034.out; have hnc95 := NB1034_1058.out; obtain ⟨hcz96_0, hcz96_1, hfz96_0, hfz96_1⟩ := cz2 (W := w94) BK1058) | ((with_reducible refine gate_callee (f := 29) rfl ?_); refine goesL_ (some 151) rfl rfl Tryz.func29 (by kernel_rfl) rfl #[.int .u64 t1038, .int .i64 t1039] rfl lz ?_; (with_reducible refine (bigdec_Exact.calls k4 t1038 t1039 t1059 t1060 t1061 _ A54.out).mono ?_); rintro e w97 ⟨rfl, hb⟩; refine ⟨_, rfl, ?_⟩; have n0_ := Aside0.mk (Kd.V_below (by (with_reducible repeat (first | apply Kd.V_alloc | apply Kd.V_drewN | apply Kd.V_drew)); exact (Kd.V_mono (Kd.V_far (p := ⟨gb1058, 1, none⟩) (Kd.V_far (p := ⟨gb1058, 0, none⟩) (Kd.V_mono HO_114.out (fun k_ hk => (⟨hk, hk.2⟩ : _ ∧ k_ ≠ gb1058))) (fun _ hk => hk.2) (.string t1055)) (fun _ hk => hk.2) (.int .i64 t1056)) (fun _ h_ => h_.1))) hb); have n1_ := Aside0.mk (blk_below (g := gb1034) (o := .cells #[.int .u64 a0_0, .bool a0_1] 24 (0, 0)) bk hb); have n2_ := Aside0.mk (blk_below (g := gb1058) (o := .cells #[.string t1055, .int .i64 t1056] 42 (0, 0)) bk hb); have n3_ := Aside0.mk (below_step bz hb); clear HO_114; clear BK1034; clear BK1058; clear HB; have HO_114 := n0_; have BK1034 := n1_; have BK1058 := n2_; have HB := n3_; clear n0_ n1_ n2_ n3_; (try clear hb); (try clear hb2); (try clear hk); (try clear hi)) | ((with_reducible refine gate_dst (N := 20) rfl ?_); (try (refine gate_guard (by rfl) ?_; dsimp only)); refine box_event rfl (N := 20) rfl (cs := #[.string (⟨#[]⟩ : ByteArray), .int .i64 0]) (t := 42) gz ?_; intro gb1062 hg w98 hbox hb; have n0_ := Aside0.mk (Kd.V_below (Kd.V_elderB (by (with_reducible repeat (first | apply Kd.V_alloc | apply Kd.V_drewN | apply Kd.V_drew)); exact HO_114.out) gb1062 (Nat.le_of_eq hg.symm)) hb); have n1_ := Aside0.mk (blk_below (g := gb1034) (o := .cells #[.int .u64 a0_0, .bool a0_1] 24 (0, 0)) bk hb); have n2_ := Aside0.mk (blk_below (g := gb1058) (o := .cells #[.string t1055, .int .i64 t1056] 42 (0, 0)) bk hb); have n3_ := Aside0.mk (below_step bz hb); have n4_ := Aside0.mk (hbox); have n5_ := Aside0.mk ((by rw [hg]; exact (below_size bz) : w.heap.size ≤ gb1062)); have n6_ := Aside0.mk ((by rw [hg]; exact (below_size bz) : w.heap.size ≤ gb1062)); have n7_ := Aside0.mk ((by rw [hg]; exact Nat.ne_of_lt (blk_lt (g := gb1034) (o := .cells #[.int .u64 a0_0, .bool a0_1] 24 (0, 0)) bk) : gb1034 ≠ gb1062)); have n8_ := Aside0.mk ((by rw [hg]; exact Nat.ne_of_gt (blk_lt (g := gb1034) (o := .cells #[.int .u64 a0_0, .bool a0_1] 24 (0, 0)) bk) : gb1062 ≠ gb1034)); have n9_ := Aside0.mk ((by rw [hg]; exact Nat.ne_of_lt (blk_lt (g := gb1058) (o := .cells #[.string t1055, .int .i64 t1056] 42 (0, 0)) bk) : gb1058 ≠ gb1062)); have n10_ := Aside0.mk ((by rw [hg]; exact Nat.ne_of_gt (blk_lt (g := gb1058) (o := .cells #[.string t1055, .int .i64 t1056] 42 (0, 0)) bk) : gb1062 ≠ gb1058)); clear HO_114; clear BK1034; clear BK1058; clear HB; have HO_114 := n0_; have BK1034 := n1_; have BK1058 := n2_; have HB := n3_; have BK1062 := n4_; have GW1062 := n5_; have GE1062 := n6_; have NB1034_1062 := n7_; have NB1062_1034 := n8_; have NB1058_1062 := n9_; have NB1062_1058 := n10_; clear n0_ n1_ n2_ n3_ n4_ n5_ n6_ n7_ n8_ n9_ n10_; clear hb hbox hg; have hnb99 := NB1062_1034.out; have hnc99 := NB1034_1062.out; have hnb100 := NB1062_1058.out; have hnc100 := NB1058_1062.out; obtain ⟨hcz101_0, hcz101_1, hfz101_0, hfz101_1⟩ := cz2 (W := w98) BK1062))
                     go_ret
                     exact ⟨by first | rfl | (simp [errW_none, errW_some] <;> rfl) | (simp only [← hji36, ← hji48]; first | rfl | (simp [errW_none, errW_some] <;> rfl)) | (simp [*, errW_none, errW_some] <;> rfl), bz⟩
                   ·replace H := hN H c55
                    obtain ⟨c55b0, c55b1⟩ := eF c55
                    obtain rfl := Option.some.inj H
                    have p51 : 0 ≤ ((ji48) : Int) := of_decide_eq_true (by first | (with_reducible assumption) | assumption)
                    have q51 : (ji48) < (t1049.size : Int) := of_decide_eq_true (by first | (with_reducible assumption) | assumption)
                    have hx51 := bt_at t1049 (ji48)
                    replace p51 := eq_true p51
                    replace q51 := eq_true q51
                    go_wp2_with (first | ((with_reducible refine gate_callee (f := 29) rfl ?_); refine goesL_ (some 145) rfl rfl Tryz.func29 (by kernel_rfl) rfl #[.int .u64 x11_2, .int .i64 (wrap64 (x12_2 + (wrap64 (-x15_4))))] rfl lz ?_; (with_reducible refine (bigdec_Exact.calls k4 x11_2 (wrap64 (x12_2 + (wrap64 (-x15_4)))) t1055 t1056 t1057 _ A53.out).mono ?_); rintro e w102 ⟨rfl, hb⟩; refine ⟨_, rfl, ?_⟩; have n0_ := Aside0.mk (Kd.V_below (by (with_reducible repeat (first | apply Kd.V_alloc | apply Kd.V_drewN | apply Kd.V_drew)); exact HO_114.out) hb); have n1_ := Aside0.mk (blk_below (g := gb1034) (o := .cells #[.int .u64 a0_0, .bool a0_1] 24 (0, 0)) bk hb); have n2_ := Aside0.mk (below_step bz hb); clear HO_114; clear BK1034; clear HB; have HO_114 := n0_; have BK1034 := n1_; have HB := n2_; clear n0_ n1_ n2_; (try clear hb); (try clear hb2); (try clear hk); (try clear hi)) | ((with_reducible refine gate_dst (N := 18) rfl ?_); (try (refine gate_guard (by rfl) ?_; dsimp only)); refine box_event rfl (N := 18) rfl (cs := #[.string (⟨#[]⟩ : ByteArray), .int .i64 0]) (t := 42) gz ?_; intro gb1058 hg w103 hbox hb; have n0_ := Aside0.mk (Kd.V_below (Kd.V_elderB (by (with_reducible repeat (first | apply Kd.V_alloc | apply Kd.V_drewN | apply Kd.V_drew)); exact HO_114.out) gb1058 (Nat.le_of_eq hg.symm)) hb); have n1_ := Aside0.mk (blk_below (g := gb1034) (o := .cells #[.int .u64 a0_0, .bool a0_1] 24 (0, 0)) bk hb); have n2_ := Aside0.mk (below_step bz hb); have n3_ := Aside0.mk (hbox); have n4_ := Aside0.mk ((by rw [hg]; exact (below_size bz) : w.heap.size ≤ gb1058)); have n5_ := Aside0.mk ((by rw [hg]; exact (below_size bz) : w.heap.size ≤ gb1058)); have n6_ := Aside0.mk ((by rw [hg]; exact Nat.ne_of_lt (blk_lt (g := gb1034) (o := .cells #[.int .u64 a0_0, .bool a0_1] 24 (0, 0)) bk) : gb1034 ≠ gb1058)); have n7_ := Aside0.mk ((by rw [hg]; exact Nat.ne_of_gt (blk_lt (g := gb1034) (o := .cells #[.int .u64 a0_0, .bool a0_1] 24 (0, 0)) bk) : gb1058 ≠ gb1034)); clear HO_114; clear BK1034; clear HB; have HO_114 := n0_; have BK1034 := n1_; have HB := n2_; have BK1058 := n3_; have GW1058 := n4_; have GE1058 := n5_; have NB1034_1058 := n6_; have NB1058_1034 := n7_; clear n0_ n1_ n2_ n3_ n4_ n5_ n6_ n7_; clear hb hbox hg; have hnb104 := NB1058_1034.out; have hnc104 := NB1034_1058.out; obtain ⟨hcz105_0, hcz105_1, hfz105_0, hfz105_1⟩ := cz2 (W := w103) BK1058) | ((with_reducible refine gate_callee (f := 29) rfl ?_); refine goesL_ (some 151) rfl rfl Tryz.func29 (by kernel_rfl) rfl #[.int .u64 t1038, .int .i64 t1039] rfl lz ?_; (with_reducible refine (bigdec_Exact.calls k4 t1038 t1039 t1059 t1060 t1061 _ A54.out).mono ?_); rintro e w106 ⟨rfl, hb⟩; refine ⟨_, rfl, ?_⟩; have n0_ := Aside0.mk (Kd.V_below (by (with_reducible repeat (first | apply Kd.V_alloc | apply Kd.V_drewN | apply Kd.V_drew)); exact (Kd.V_mono (Kd.V_far (p := ⟨gb1058, 1, none⟩) (Kd.V_far (p := ⟨gb1058, 0, none⟩) (Kd.V_mono HO_114.out (fun k_ hk => (⟨hk, hk.2⟩ : _ ∧ k_ ≠ gb1058))) (fun _ hk => hk.2) (.string t1055)) (fun _ hk => hk.2) (.int .i64 t1056)) (fun _ h_ => h_.1))) hb); have n1_ := Aside0.mk (blk_below (g := gb1034) (o := .cells #[.int .u64 a0_0, .bool a0_1] 24 (0, 0)) bk hb); have n2_ := Aside0.mk (blk_below (g := gb1058) (o := .cells #[.string t1055, .int .i64 t1056] 42 (0, 0)) bk hb); have n3_ := Aside0.mk (below_step bz hb); clear HO_114; clear BK1034; clear BK1058; clear HB; have HO_114 := n0_; have BK1034 := n1_; have BK1058 := n2_; have HB := n3_; clear n0_ n1_ n2_ n3_; (try clear hb); (try clear hb2); (try clear hk); (try clear hi)) | ((with_reducible refine gate_dst (N := 20) rfl ?_); (try (refine gate_guard (by rfl) ?_; dsimp only)); refine box_event rfl (N := 20) rfl (cs := #[.string (⟨#[]⟩ : ByteArray), .int .i64 0]) (t := 42) gz ?_; intro gb1062 hg w107 hbox hb; have n0_ := Aside0.mk (Kd.V_below (Kd.V_elderB (by (with_reducible repeat (first | apply Kd.V_alloc | apply Kd.V_drewN | apply Kd.V_drew)); exact HO_114.out) gb1062 (Nat.le_of_eq hg.symm)) hb); have n1_ := Aside0.mk (blk_below (g := gb1034) (o := .cells #[.int .u64 a0_0, .bool a0_1] 24 (0, 0)) bk hb); have n2_ := Aside0.mk (blk_below (g := gb1058) (o := .cells #[.string t1055, .int .i64 t1056] 42 (0, 0)) bk hb); have n3_ := Aside0.mk (below_step bz hb); have n4_ := Aside0.mk (hbox); have n5_ := Aside0.mk ((by rw [hg]; exact (below_size bz) : w.heap.size ≤ gb1062)); have n6_ := Aside0.mk ((by rw [hg]; exact (below_size bz) : w.heap.size ≤ gb1062)); have n7_ := Aside0.mk ((by rw [hg]; exact Nat.ne_of_lt (blk_lt (g := gb1034) (o := .cells #[.int .u64 a0_0, .bool a0_1] 24 (0, 0)) bk) : gb1034 ≠ gb1062)); have n8_ := Aside0.mk ((by rw [hg]; exact Nat.ne_of_gt (blk_lt (g := gb1034) (o := .cells #[.int .u64 a0_0, .bool a0_1] 24 (0, 0)) bk) : gb1062 ≠ gb1034)); have n9_ := Aside0.mk ((by rw [hg]; exact Nat.ne_of_lt (blk_lt (g := gb1058) (o := .cells #[.string t1055, .int .i64 t1056] 42 (0, 0)) bk) : gb1058 ≠ gb1062)); have n10_ := Aside0.mk ((by rw [hg]; exact Nat.ne_of_gt (blk_lt (g := gb1058) (o := .cells #[.string t1055, .int .i64 t1056] 42 (0, 0)) bk) : gb1062 ≠ gb1058)); clear HO_114; clear BK1034; clear BK1058; clear HB; have HO_114 := n0_; have BK1034 := n1_; have BK1058 := n2_; have HB := n3_; have BK1062 := n4_; have GW1062 := n5_; have GE1062 := n6_; have NB1034_1062 := n7_; have NB1062_1034 := n8_; have NB1058_1062 := n9_; have NB1062_1058 := n10_; clear n0_ n1_ n2_ n3_ n4_ n5_ n6_ n7_ n8_ n9_ n10_; clear hb hbox hg; have hnb108 := NB1062_1034.out; have hnc108 := NB1034_1062.out; have hnb109 := NB1062_1058.out; have hnc109 := NB1058_1062.out; obtain ⟨hcz110_0, hcz110_1, hfz110_0, hfz110_1⟩ := cz2 (W := w107) BK1062))
                    go_ret
                    exact ⟨by first | rfl | (simp [errW_none, errW_some] <;> rfl) | (simp only [← hji36, ← hji48]; first | rfl | (simp [errW_none, errW_some] <;> rfl)) | (simp [*, errW_none, errW_some] <;> rfl), bz⟩
                  ·replace H := hN H c52
                   obtain ⟨c52b0, c52b1⟩ := eF c52
                   replace H := bs H
                   obtain ⟨⟨t1064, t1065, t1066⟩, A111, H⟩ := H
                   dsimp only at H
                   replace H := bs H
                   obtain ⟨⟨t1068, t1069, t1070⟩, A112, H⟩ := H
                   dsimp only at H
                   by_cases c113 : t1066 = 0
                   ·replace H := hE H c113
                    obtain ⟨c113b0, c113b1⟩ := eT c113
                    clear c113
                    by_cases c114 : t1070 = 0
                    ·replace H := hE H c114
                     obtain ⟨c114b0, c114b1⟩ := eT c114
                     clear c114
                     by_cases c115 : (t1064.toList == t1068.toList && (t1065 == t1069)) = true
                     ·replace H := hE H c115
                      have c115b0 : (t1064.toList == t1068.toList && (t1065 == t1069)) = true := c115
                      (try (have c115b1 : decide (t1064.toList = t1068.toList && (t1065 == t1069)) = true := by simpa using c115))
                      (try (have c115b2 : (t1064.toList == t1068.toList && (t1065 == t1069)) = true := by simpa using c115))
                      clear c115
                      by_cases c116 : 2 < (t1049.size : Int)
                      ·replace H := hE H c116
                       have c116b0 := decide_eq_true c116
                       have c116b1 : decide (2 < t1049.size) = true := decide_eq_true (by omega)
                       clear c116
                       by_cases c118 : (((bt t1049 2) == 49) == (decide (t1038 > 0))) = true
                       ·replace H := hE H c118
                        have c118b0 : (((bt t1049 2) == 49) == (decide (t1038 > 0))) = true := c118
                        (try (have c118b1 : decide (((bt t1049 2) == 49) = (decide (t1038 > 0))) = true := by simpa using c118))
                        (try (have c118b2 : (((bt t1049 2) == 49) == (decide (t1038 > 0))) = true := by simpa using c118))
                        clear c118
                        replace H := bs H
                        obtain ⟨t1072, A119, H⟩ := H
                        obtain rfl := Option.some.inj H
                        have p51 : 0 ≤ ((ji48) : Int) := of_decide_eq_true (by first | (with_reducible assumption) | assumption)
                        have q51 : (ji48) < (t1049.size : Int) := of_decide_eq_true (by first | (with_reducible assumption) | assumption)
                        have hx51 := bt_at t1049 (ji48)
                        replace p51 := eq_true p51
                        replace q51 := eq_true q51
                        go_wp2_with (first | ((with_reducible refine gate_callee (f := 29) rfl ?_); refine goesL_ (some 145) rfl rfl Tryz.func29 (by kernel_rfl) rfl #[.int .u64 x11_2, .int .i64 (wrap64 (x12_2 + x15_4))] rfl lz ?_; (with_reducible refine (bigdec_Exact.calls k4 x11_2 (wrap64 (x12_2 + x15_4)) t1064 t1065 t1066 _ A111.out).mono ?_); rintro e w120 ⟨rfl, hb⟩; refine ⟨_, rfl, ?_⟩; have n0_ := Aside0.mk (Kd.V_below (by (with_reducible repeat (first | apply Kd.V_alloc | apply Kd.V_drewN | apply Kd.V_drew)); exact HO_114.out) hb); have n1_ := Aside0.mk (blk_below (g := gb1034) (o := .cells #[.int .u64 a0_0, .bool a0_1] 24 (0, 0)) bk hb); have n2_ := Aside0.mk (below_step bz hb); clear HO_114; clear BK1034; clear HB; have HO_114 := n0_; have BK1034 := n1_; have HB := n2_; clear n0_ n1_ n2_; (try clear hb); (try clear hb2); (try clear hk); (try clear hi)) | ((with_reducible refine gate_dst (N := 18) rfl ?_); (try (refine gate_guard (by rfl) ?_; dsimp only)); refine box_event rfl (N := 18) rfl (cs := #[.string (⟨#[]⟩ : ByteArray), .int .i64 0]) (t := 42) gz ?_; intro gb1067 hg w121 hbox hb; have n0_ := Aside0.mk (Kd.V_below (Kd.V_elderB (by (with_reducible repeat (first | apply Kd.V_alloc | apply Kd.V_drewN | apply Kd.V_drew)); exact HO_114.out) gb1067 (Nat.le_of_eq hg.symm)) hb); have n1_ := Aside0.mk (blk_below (g := gb1034) (o := .cells #[.int .u64 a0_0, .bool a0_1] 24 (0, 0)) bk hb); have n2_ := Aside0.mk (below_step bz hb); have n3_ := Aside0.mk (hbox); have n4_ := Aside0.mk ((by rw [hg]; exact (below_size bz) : w.heap.size ≤ gb1067)); have n5_ := Aside0.mk ((by rw [hg]; exact (below_size bz) : w.heap.size ≤ gb1067)); have n6_ := Aside0.mk ((by rw [hg]; exact Nat.ne_of_lt (blk_lt (g := gb1034) (o := .cells #[.int .u64 a0_0, .bool a0_1] 24 (0, 0)) bk) : gb1034 ≠ gb1067)); have n7_ := Aside0.mk ((by rw [hg]; exact Nat.ne_of_gt (blk_lt (g := gb1034) (o := .cells #[.int .u64 a0_0, .bool a0_1] 24 (0, 0)) bk) : gb1067 ≠ gb1034)); clear HO_114; clear BK1034; clear HB; have HO_114 := n0_; have BK1034 := n1_; have HB := n2_; have BK1067 := n3_; have GW1067 := n4_; have GE1067 := n5_; have NB1034_1067 := n6_; have NB1067_1034 := n7_; clear n0_ n1_ n2_ n3_ n4_ n5_ n6_ n7_; clear hb hbox hg; have hnb122 := NB1067_1034.out; have hnc122 := NB1034_1067.out; obtain ⟨hcz123_0, hcz123_1, hfz123_0, hfz123_1⟩ := cz2 (W := w121) BK1067) | ((with_reducible refine gate_callee (f := 29) rfl ?_); refine goesL_ (some 151) rfl rfl Tryz.func29 (by kernel_rfl) rfl #[.int .u64 t1038, .int .i64 t1039] rfl lz ?_; (with_reducible refine (bigdec_Exact.calls k4 t1038 t1039 t1068 t1069 t1070 _ A112.out).mono ?_); rintro e w124 ⟨rfl, hb⟩; refine ⟨_, rfl, ?_⟩; have n0_ := Aside0.mk (Kd.V_below (by (with_reducible repeat (first | apply Kd.V_alloc | apply Kd.V_drewN | apply Kd.V_drew)); exact (Kd.V_mono (Kd.V_far (p := ⟨gb1067, 1, none⟩) (Kd.V_far (p := ⟨gb1067, 0, none⟩) (Kd.V_mono HO_114.out (fun k_ hk => (⟨hk, hk.2⟩ : _ ∧ k_ ≠ gb1067))) (fun _ hk => hk.2) (.string t1064)) (fun _ hk => hk.2) (.int .i64 t1065)) (fun _ h_ => h_.1))) hb); have n1_ := Aside0.mk (blk_below (g := gb1034) (o := .cells #[.int .u64 a0_0, .bool a0_1] 24 (0, 0)) bk hb); have n2_ := Aside0.mk (blk_below (g := gb1067) (o := .cells #[.string t1064, .int .i64 t1065] 42 (0, 0)) bk hb); have n3_ := Aside0.mk (below_step bz hb); clear HO_114; clear BK1034; clear BK1067; clear HB; have HO_114 := n0_; have BK1034 := n1_; have BK1067 := n2_; have HB := n3_; clear n0_ n1_ n2_ n3_; (try clear hb); (try clear hb2); (try clear hk); (try clear hi)) | ((with_reducible refine gate_dst (N := 20) rfl ?_); (try (refine gate_guard (by rfl) ?_; dsimp only)); refine box_event rfl (N := 20) rfl (cs := #[.string (⟨#[]⟩ : ByteArray), .int .i64 0]) (t := 42) gz ?_; intro gb1071 hg w125 hbox hb; have n0_ := Aside0.mk (Kd.V_below (Kd.V_elderB (by (with_reducible repeat (first | apply Kd.V_alloc | apply Kd.V_drewN | apply Kd.V_drew)); exact HO_114.out) gb1071 (Nat.le_of_eq hg.symm)) hb); have n1_ := Aside0.mk (blk_below (g := gb1034) (o := .cells #[.int .u64 a0_0, .bool a0_1] 24 (0, 0)) bk hb); have n2_ := Aside0.mk (blk_below (g := gb1067) (o := .cells #[.string t1064, .int .i64 t1065] 42 (0, 0)) bk hb); have n3_ := Aside0.mk (below_step bz hb); have n4_ := Aside0.mk (hbox); have n5_ := Aside0.mk ((by rw [hg]; exact (below_size bz) : w.heap.size ≤ gb1071)); have n6_ := Aside0.mk ((by rw [hg]; exact (below_size bz) : w.heap.size ≤ gb1071)); have n7_ := Aside0.mk ((by rw [hg]; exact Nat.ne_of_lt (blk_lt (g := gb1034) (o := .cells #[.int .u64 a0_0, .bool a0_1] 24 (0, 0)) bk) : gb1034 ≠ gb1071)); have n8_ := Aside0.mk ((by rw [hg]; exact Nat.ne_of_gt (blk_lt (g := gb1034) (o := .cells #[.int .u64 a0_0, .bool a0_1] 24 (0, 0)) bk) : gb1071 ≠ gb1034)); have n9_ := Aside0.mk ((by rw [hg]; exact Nat.ne_of_lt (blk_lt (g := gb1067) (o := .cells #[.string t1064, .int .i64 t1065] 42 (0, 0)) bk) : gb1067 ≠ gb1071)); have n10_ := Aside0.mk ((by rw [hg]; exact Nat.ne_of_gt (blk_lt (g := gb1067) (o := .cells #[.string t1064, .int .i64 t1065] 42 (0, 0)) bk) : gb1071 ≠ gb1067)); clear HO_114; clear BK1034; clear BK1067; clear HB; have HO_114 := n0_; have BK1034 := n1_; have BK1067 := n2_; have HB := n3_; have BK1071 := n4_; have GW1071 := n5_; have GE1071 := n6_; have NB1034_1071 := n7_; have NB1071_1034 := n8_; have NB1067_1071 := n9_; have NB1071_1067 := n10_; clear n0_ n1_ n2_ n3_ n4_ n5_ n6_ n7_ n8_ n9_ n10_; clear hb hbox hg; have hnb126 := NB1071_1034.out; have hnc126 := NB1034_1071.out; have hnb127 := NB1071_1067.out; have hnc127 := NB1067_1071.out; obtain ⟨hcz128_0, hcz128_1, hfz128_0, hfz128_1⟩ := cz2 (W := w125) BK1071; obtain ⟨hcz129_0, hcz129_1, hfz129_0, hfz129_1⟩ := cz2 (W := w125) BK1067; have p117 : 0 ≤ (2 : Int) := (by omega); have q117 : 2 < t1049.size := (by have : (2 : Int) < (t1049.size : Int) := of_decide_eq_true (by first | (with_reducible assumption) | assumption); omega); have hx117 : ∀ h : 2 < t1049.size, ((t1049[2]'h).toNat : Int) = bt t1049 2 := bt_at t1049 2; clear p117; have qi117 : (2 < (t1049.size : Int)) = True := eq_true (of_decide_eq_true (by first | (with_reducible assumption) | assumption)); replace q117 := eq_true q117) | (go_at_call 23; (with_reducible refine (platenlaw06_lives.calls k4  t1072 _ A119.out).mono ?_); rintro e w130 ⟨rfl, hb⟩; have n0_ := Aside0.mk (Kd.V_below (by (with_reducible repeat (first | apply Kd.V_alloc | apply Kd.V_drewN | apply Kd.V_drew)); exact (Kd.V_mono (Kd.V_far (p := ⟨gb1071, 1, none⟩) (Kd.V_far (p := ⟨gb1071, 0, none⟩) (Kd.V_mono HO_114.out (fun k_ hk => (⟨hk, hk.2⟩ : _ ∧ k_ ≠ gb1071))) (fun _ hk => hk.2) (.string t1068)) (fun _ hk => hk.2) (.int .i64 t1069)) (fun _ h_ => h_.1))) hb); have n1_ := Aside0.mk (blk_below (g := gb1034) (o := .cells #[.int .u64 a0_0, .bool a0_1] 24 (0, 0)) bk hb); have n2_ := Aside0.mk (blk_below (g := gb1067) (o := .cells #[.string t1064, .int .i64 t1065] 42 (0, 0)) bk hb); have n3_ := Aside0.mk (blk_below (g := gb1071) (o := .cells #[.string t1068, .int .i64 t1069] 42 (0, 0)) bk hb); have n4_ := Aside0.mk (below_step bz hb); clear HO_114; clear BK1034; clear BK1067; clear BK1071; clear HB; have HO_114 := n0_; have BK1034 := n1_; have BK1067 := n2_; have BK1071 := n3_; have HB := n4_; clear n0_ n1_ n2_ n3_ n4_; (try clear hb); (try clear hb2); (try clear hk); (try clear hi)))
                        go_ret
                        exact ⟨by first | rfl | (simp [errW_none, errW_some] <;> rfl) | (simp only [← hji36, ← hji48]; first | rfl | (simp [errW_none, errW_some] <;> rfl)) | (simp [*, errW_none, errW_some] <;> rfl), bz⟩
                       ·replace H := hN H c118
                        have c118b0 : (((bt t1049 2) == 49) == (decide (t1038 > 0))) = false := by simpa using c118
                        (try (have c118b1 : decide (((bt t1049 2) == 49) = (decide (t1038 > 0))) = false := by simpa using c118))
                        (try (have c118b2 : (((bt t1049 2) == 49) == (decide (t1038 > 0))) = false := by simpa using c118))
                        (try (have c118b3 : ¬ (((bt t1049 2) == 49) = (decide (t1038 > 0))) := by simpa using c118))
                        clear c118
                        obtain rfl := Option.some.inj H
                        have p51 : 0 ≤ ((ji48) : Int) := of_decide_eq_true (by first | (with_reducible assumption) | assumption)
                        have q51 : (ji48) < (t1049.size : Int) := of_decide_eq_true (by first | (with_reducible assumption) | assumption)
                        have hx51 := bt_at t1049 (ji48)
                        replace p51 := eq_true p51
                        replace q51 := eq_true q51
                        go_wp2_with (first | ((with_reducible refine gate_callee (f := 29) rfl ?_); refine goesL_ (some 145) rfl rfl Tryz.func29 (by kernel_rfl) rfl #[.int .u64 x11_2, .int .i64 (wrap64 (x12_2 + x15_4))] rfl lz ?_; (with_reducible refine (bigdec_Exact.calls k4 x11_2 (wrap64 (x12_2 + x15_4)) t1064 t1065 t1066 _ A111.out).mono ?_); rintro e w131 ⟨rfl, hb⟩; refine ⟨_, rfl, ?_⟩; have n0_ := Aside0.mk (Kd.V_below (by (with_reducible repeat (first | apply Kd.V_alloc | apply Kd.V_drewN | apply Kd.V_drew)); exact HO_114.out) hb); have n1_ := Aside0.mk (blk_below (g := gb1034) (o := .cells #[.int .u64 a0_0, .bool a0_1] 24 (0, 0)) bk hb); have n2_ := Aside0.mk (below_step bz hb); clear HO_114; clear BK1034; clear HB; have HO_114 := n0_; have BK1034 := n1_; have HB := n2_; clear n0_ n1_ n2_; (try clear hb); (try clear hb2); (try clear hk); (try clear hi)) | ((with_reducible refine gate_dst (N := 18) rfl ?_); (try (refine gate_guard (by rfl) ?_; dsimp only)); refine box_event rfl (N := 18) rfl (cs := #[.string (⟨#[]⟩ : ByteArray), .int .i64 0]) (t := 42) gz ?_; intro gb1067 hg w132 hbox hb; have n0_ := Aside0.mk (Kd.V_below (Kd.V_elderB (by (with_reducible repeat (first | apply Kd.V_alloc | apply Kd.V_drewN | apply Kd.V_drew)); exact HO_114.out) gb1067 (Nat.le_of_eq hg.symm)) hb); have n1_ := Aside0.mk (blk_below (g := gb1034) (o := .cells #[.int .u64 a0_0, .bool a0_1] 24 (0, 0)) bk hb); have n2_ := Aside0.mk (below_step bz hb); have n3_ := Aside0.mk (hbox); have n4_ := Aside0.mk ((by rw [hg]; exact (below_size bz) : w.heap.size ≤ gb1067)); have n5_ := Aside0.mk ((by rw [hg]; exact (below_size bz) : w.heap.size ≤ gb1067)); have n6_ := Aside0.mk ((by rw [hg]; exact Nat.ne_of_lt (blk_lt (g := gb1034) (o := .cells #[.int .u64 a0_0, .bool a0_1] 24 (0, 0)) bk) : gb1034 ≠ gb1067)); have n7_ := Aside0.mk ((by rw [hg]; exact Nat.ne_of_gt (blk_lt (g := gb1034) (o := .cells #[.int .u64 a0_0, .bool a0_1] 24 (0, 0)) bk) : gb1067 ≠ gb1034)); clear HO_114; clear BK1034; clear HB; have HO_114 := n0_; have BK1034 := n1_; have HB := n2_; have BK1067 := n3_; have GW1067 := n4_; have GE1067 := n5_; have NB1034_1067 := n6_; have NB1067_1034 := n7_; clear n0_ n1_ n2_ n3_ n4_ n5_ n6_ n7_; clear hb hbox hg; have hnb133 := NB1067_1034.out; have hnc133 := NB1034_1067.out; obtain ⟨hcz134_0, hcz134_1, hfz134_0, hfz134_1⟩ := cz2 (W := w132) BK1067) | ((with_reducible refine gate_callee (f := 29) rfl ?_); refine goesL_ (some 151) rfl rfl Tryz.func29 (by kernel_rfl) rfl #[.int .u64 t1038, .int .i64 t1039] rfl lz ?_; (with_reducible refine (bigdec_Exact.calls k4 t1038 t1039 t1068 t1069 t1070 _ A112.out).mono ?_); rintro e w135 ⟨rfl, hb⟩; refine ⟨_, rfl, ?_⟩; have n0_ := Aside0.mk (Kd.V_below (by (with_reducible repeat (first | apply Kd.V_alloc | apply Kd.V_drewN | apply Kd.V_drew)); exact (Kd.V_mono (Kd.V_far (p := ⟨gb1067, 1, none⟩) (Kd.V_far (p := ⟨gb1067, 0, none⟩) (Kd.V_mono HO_114.out (fun k_ hk => (⟨hk, hk.2⟩ : _ ∧ k_ ≠ gb1067))) (fun _ hk => hk.2) (.string t1064)) (fun _ hk => hk.2) (.int .i64 t1065)) (fun _ h_ => h_.1))) hb); have n1_ := Aside0.mk (blk_below (g := gb1034) (o := .cells #[.int .u64 a0_0, .bool a0_1] 24 (0, 0)) bk hb); have n2_ := Aside0.mk (blk_below (g := gb1067) (o := .cells #[.string t1064, .int .i64 t1065] 42 (0, 0)) bk hb); have n3_ := Aside0.mk (below_step bz hb); clear HO_114; clear BK1034; clear BK1067; clear HB; have HO_114 := n0_; have BK1034 := n1_; have BK1067 := n2_; have HB := n3_; clear n0_ n1_ n2_ n3_; (try clear hb); (try clear hb2); (try clear hk); (try clear hi)) | ((with_reducible refine gate_dst (N := 20) rfl ?_); (try (refine gate_guard (by rfl) ?_; dsimp only)); refine box_event rfl (N := 20) rfl (cs := #[.string (⟨#[]⟩ : ByteArray), .int .i64 0]) (t := 42) gz ?_; intro gb1071 hg w136 hbox hb; have n0_ := Aside0.mk (Kd.V_below (Kd.V_elderB (by (with_reducible repeat (first | apply Kd.V_alloc | apply Kd.V_drewN | apply Kd.V_drew)); exact HO_114.out) gb1071 (Nat.le_of_eq hg.symm)) hb); have n1_ := Aside0.mk (blk_below (g := gb1034) (o := .cells #[.int .u64 a0_0, .bool a0_1] 24 (0, 0)) bk hb); have n2_ := Aside0.mk (blk_below (g := gb1067) (o := .cells #[.string t1064, .int .i64 t1065] 42 (0, 0)) bk hb); have n3_ := Aside0.mk (below_step bz hb); have n4_ := Aside0.mk (hbox); have n5_ := Aside0.mk ((by rw [hg]; exact (below_size bz) : w.heap.size ≤ gb1071)); have n6_ := Aside0.mk ((by rw [hg]; exact (below_size bz) : w.heap.size ≤ gb1071)); have n7_ := Aside0.mk ((by rw [hg]; exact Nat.ne_of_lt (blk_lt (g := gb1034) (o := .cells #[.int .u64 a0_0, .bool a0_1] 24 (0, 0)) bk) : gb1034 ≠ gb1071)); have n8_ := Aside0.mk ((by rw [hg]; exact Nat.ne_of_gt (blk_lt (g := gb1034) (o := .cells #[.int .u64 a0_0, .bool a0_1] 24 (0, 0)) bk) : gb1071 ≠ gb1034)); have n9_ := Aside0.mk ((by rw [hg]; exact Nat.ne_of_lt (blk_lt (g := gb1067) (o := .cells #[.string t1064, .int .i64 t1065] 42 (0, 0)) bk) : gb1067 ≠ gb1071)); have n10_ := Aside0.mk ((by rw [hg]; exact Nat.ne_of_gt (blk_lt (g := gb1067) (o := .cells #[.string t1064, .int .i64 t1065] 42 (0, 0)) bk) : gb1071 ≠ gb1067)); clear HO_114; clear BK1034; clear BK1067; clear HB; have HO_114 := n0_; have BK1034 := n1_; have BK1067 := n2_; have HB := n3_; have BK1071 := n4_; have GW1071 := n5_; have GE1071 := n6_; have NB1034_1071 := n7_; have NB1071_1034 := n8_; have NB1067_1071 := n9_; have NB1071_1067 := n10_; clear n0_ n1_ n2_ n3_ n4_ n5_ n6_ n7_ n8_ n9_ n10_; clear hb hbox hg; have hnb137 := NB1071_1034.out; have hnc137 := NB1034_1071.out; have hnb138 := NB1071_1067.out; have hnc138 := NB1067_1071.out; obtain ⟨hcz139_0, hcz139_1, hfz139_0, hfz139_1⟩ := cz2 (W := w136) BK1071; obtain ⟨hcz140_0, hcz140_1, hfz140_0, hfz140_1⟩ := cz2 (W := w136) BK1067; have p117 : 0 ≤ (2 : Int) := (by omega); have q117 : 2 < t1049.size := (by have : (2 : Int) < (t1049.size : Int) := of_decide_eq_true (by first | (with_reducible assumption) | assumption); omega); have hx117 : ∀ h : 2 < t1049.size, ((t1049[2]'h).toNat : Int) = bt t1049 2 := bt_at t1049 2; clear p117; have qi117 : (2 < (t1049.size : Int)) = True := eq_true (of_decide_eq_true (by first | (with_reducible assumption) | assumption)); replace q117 := eq_true q117))
                        go_ret
                        exact ⟨by first | rfl | (simp [errW_none, errW_some] <;> rfl) | (simp only [← hji36, ← hji48]; first | rfl | (simp [errW_none, errW_some] <;> rfl)) | (simp [*, errW_none, errW_some] <;> rfl), bz⟩
                      ·replace H := hN H c116
                       exact absurd H (by simp)
                     ·replace H := hN H c115
                      have c115b0 : (t1064.toList == t1068.toList && (t1065 == t1069)) = false := by simpa using c115
                      (try (have c115b1 : decide (t1064.toList = t1068.toList && (t1065 == t1069)) = false := by simpa using c115))
                      (try (have c115b2 : (t1064.toList == t1068.toList && (t1065 == t1069)) = false := by simpa using c115))
                      (try (have c115b3 : ¬ (t1064.toList = t1068.toList && (t1065 == t1069)) := by simpa using c115))
                      clear c115
                      obtain rfl := Option.some.inj H
                      have p51 : 0 ≤ ((ji48) : Int) := of_decide_eq_true (by first | (with_reducible assumption) | assumption)
                      have q51 : (ji48) < (t1049.size : Int) := of_decide_eq_true (by first | (with_reducible assumption) | assumption)
                      have hx51 := bt_at t1049 (ji48)
                      replace p51 := eq_true p51
                      replace q51 := eq_true q51
                      go_wp2_with (first | ((with_reducible refine gate_callee (f := 29) rfl ?_); refine goesL_ (some 145) rfl rfl Tryz.func29 (by kernel_rfl) rfl #[.int .u64 x11_2, .int .i64 (wrap64 (x12_2 + x15_4))] rfl lz ?_; (with_reducible refine (bigdec_Exact.calls k4 x11_2 (wrap64 (x12_2 + x15_4)) t1064 t1065 t1066 _ A111.out).mono ?_); rintro e w141 ⟨rfl, hb⟩; refine ⟨_, rfl, ?_⟩; have n0_ := Aside0.mk (Kd.V_below (by (with_reducible repeat (first | apply Kd.V_alloc | apply Kd.V_drewN | apply Kd.V_drew)); exact HO_114.out) hb); have n1_ := Aside0.mk (blk_below (g := gb1034) (o := .cells #[.int .u64 a0_0, .bool a0_1] 24 (0, 0)) bk hb); have n2_ := Aside0.mk (below_step bz hb); clear HO_114; clear BK1034; clear HB; have HO_114 := n0_; have BK1034 := n1_; have HB := n2_; clear n0_ n1_ n2_; (try clear hb); (try clear hb2); (try clear hk); (try clear hi)) | ((with_reducible refine gate_dst (N := 18) rfl ?_); (try (refine gate_guard (by rfl) ?_; dsimp only)); refine box_event rfl (N := 18) rfl (cs := #[.string (⟨#[]⟩ : ByteArray), .int .i64 0]) (t := 42) gz ?_; intro gb1067 hg w142 hbox hb; have n0_ := Aside0.mk (Kd.V_below (Kd.V_elderB (by (with_reducible repeat (first | apply Kd.V_alloc | apply Kd.V_drewN | apply Kd.V_drew)); exact HO_114.out) gb1067 (Nat.le_of_eq hg.symm)) hb); have n1_ := Aside0.mk (blk_below (g := gb1034) (o := .cells #[.int .u64 a0_0, .bool a0_1] 24 (0, 0)) bk hb); have n2_ := Aside0.mk (below_step bz hb); have n3_ := Aside0.mk (hbox); have n4_ := Aside0.mk ((by rw [hg]; exact (below_size bz) : w.heap.size ≤ gb1067)); have n5_ := Aside0.mk ((by rw [hg]; exact (below_size bz) : w.heap.size ≤ gb1067)); have n6_ := Aside0.mk ((by rw [hg]; exact Nat.ne_of_lt (blk_lt (g := gb1034) (o := .cells #[.int .u64 a0_0, .bool a0_1] 24 (0, 0)) bk) : gb1034 ≠ gb1067)); have n7_ := Aside0.mk ((by rw [hg]; exact Nat.ne_of_gt (blk_lt (g := gb1034) (o := .cells #[.int .u64 a0_0, .bool a0_1] 24 (0, 0)) bk) : gb1067 ≠ gb1034)); clear HO_114; clear BK1034; clear HB; have HO_114 := n0_; have BK1034 := n1_; have HB := n2_; have BK1067 := n3_; have GW1067 := n4_; have GE1067 := n5_; have NB1034_1067 := n6_; have NB1067_1034 := n7_; clear n0_ n1_ n2_ n3_ n4_ n5_ n6_ n7_; clear hb hbox hg; have hnb143 := NB1067_1034.out; have hnc143 := NB1034_1067.out; obtain ⟨hcz144_0, hcz144_1, hfz144_0, hfz144_1⟩ := cz2 (W := w142) BK1067) | ((with_reducible refine gate_callee (f := 29) rfl ?_); refine goesL_ (some 151) rfl rfl Tryz.func29 (by kernel_rfl) rfl #[.int .u64 t1038, .int .i64 t1039] rfl lz ?_; (with_reducible refine (bigdec_Exact.calls k4 t1038 t1039 t1068 t1069 t1070 _ A112.out).mono ?_); rintro e w145 ⟨rfl, hb⟩; refine ⟨_, rfl, ?_⟩; have n0_ := Aside0.mk (Kd.V_below (by (with_reducible repeat (first | apply Kd.V_alloc | apply Kd.V_drewN | apply Kd.V_drew)); exact (Kd.V_mono (Kd.V_far (p := ⟨gb1067, 1, none⟩) (Kd.V_far (p := ⟨gb1067, 0, none⟩) (Kd.V_mono HO_114.out (fun k_ hk => (⟨hk, hk.2⟩ : _ ∧ k_ ≠ gb1067))) (fun _ hk => hk.2) (.string t1064)) (fun _ hk => hk.2) (.int .i64 t1065)) (fun _ h_ => h_.1))) hb); have n1_ := Aside0.mk (blk_below (g := gb1034) (o := .cells #[.int .u64 a0_0, .bool a0_1] 24 (0, 0)) bk hb); have n2_ := Aside0.mk (blk_below (g := gb1067) (o := .cells #[.string t1064, .int .i64 t1065] 42 (0, 0)) bk hb); have n3_ := Aside0.mk (below_step bz hb); clear HO_114; clear BK1034; clear BK1067; clear HB; have HO_114 := n0_; have BK1034 := n1_; have BK1067 := n2_; have HB := n3_; clear n0_ n1_ n2_ n3_; (try clear hb); (try clear hb2); (try clear hk); (try clear hi)) | ((with_reducible refine gate_dst (N := 20) rfl ?_); (try (refine gate_guard (by rfl) ?_; dsimp only)); refine box_event rfl (N := 20) rfl (cs := #[.string (⟨#[]⟩ : ByteArray), .int .i64 0]) (t := 42) gz ?_; intro gb1071 hg w146 hbox hb; have n0_ := Aside0.mk (Kd.V_below (Kd.V_elderB (by (with_reducible repeat (first | apply Kd.V_alloc | apply Kd.V_drewN | apply Kd.V_drew)); exact HO_114.out) gb1071 (Nat.le_of_eq hg.symm)) hb); have n1_ := Aside0.mk (blk_below (g := gb1034) (o := .cells #[.int .u64 a0_0, .bool a0_1] 24 (0, 0)) bk hb); have n2_ := Aside0.mk (blk_below (g := gb1067) (o := .cells #[.string t1064, .int .i64 t1065] 42 (0, 0)) bk hb); have n3_ := Aside0.mk (below_step bz hb); have n4_ := Aside0.mk (hbox); have n5_ := Aside0.mk ((by rw [hg]; exact (below_size bz) : w.heap.size ≤ gb1071)); have n6_ := Aside0.mk ((by rw [hg]; exact (below_size bz) : w.heap.size ≤ gb1071)); have n7_ := Aside0.mk ((by rw [hg]; exact Nat.ne_of_lt (blk_lt (g := gb1034) (o := .cells #[.int .u64 a0_0, .bool a0_1] 24 (0, 0)) bk) : gb1034 ≠ gb1071)); have n8_ := Aside0.mk ((by rw [hg]; exact Nat.ne_of_gt (blk_lt (g := gb1034) (o := .cells #[.int .u64 a0_0, .bool a0_1] 24 (0, 0)) bk) : gb1071 ≠ gb1034)); have n9_ := Aside0.mk ((by rw [hg]; exact Nat.ne_of_lt (blk_lt (g := gb1067) (o := .cells #[.string t1064, .int .i64 t1065] 42 (0, 0)) bk) : gb1067 ≠ gb1071)); have n10_ := Aside0.mk ((by rw [hg]; exact Nat.ne_of_gt (blk_lt (g := gb1067) (o := .cells #[.string t1064, .int .i64 t1065] 42 (0, 0)) bk) : gb1071 ≠ gb1067)); clear HO_114; clear BK1034; clear BK1067; clear HB; have HO_114 := n0_; have BK1034 := n1_; have BK1067 := n2_; have HB := n3_; have BK1071 := n4_; have GW1071 := n5_; have GE1071 := n6_; have NB1034_1071 := n7_; have NB1071_1034 := n8_; have NB1067_1071 := n9_; have NB1071_1067 := n10_; clear n0_ n1_ n2_ n3_ n4_ n5_ n6_ n7_ n8_ n9_ n10_; clear hb hbox hg; have hnb147 := NB1071_1034.out; have hnc147 := NB1034_1071.out; have hnb148 := NB1071_1067.out; have hnc148 := NB1067_1071.out; obtain ⟨hcz149_0, hcz149_1, hfz149_0, hfz149_1⟩ := cz2 (W := w146) BK1071; obtain ⟨hcz150_0, hcz150_1, hfz150_0, hfz150_1⟩ := cz2 (W := w146) BK1067))
                      go_ret
                      exact ⟨by first | rfl | (simp [errW_none, errW_some] <;> rfl) | (simp only [← hji36, ← hji48]; first | rfl | (simp [errW_none, errW_some] <;> rfl)) | (simp [*, errW_none, errW_some] <;> rfl), bz⟩
                    ·replace H := hN H c114
                     obtain ⟨c114b0, c114b1⟩ := eF c114
                     obtain rfl := Option.some.inj H
                     have p51 : 0 ≤ ((ji48) : Int) := of_decide_eq_true (by first | (with_reducible assumption) | assumption)
                     have q51 : (ji48) < (t1049.size : Int) := of_decide_eq_true (by first | (with_reducible assumption) | assumption)
                     have hx51 := bt_at t1049 (ji48)
                     replace p51 := eq_true p51
                     replace q51 := eq_true q51
                     go_wp2_with (first | ((with_reducible refine gate_callee (f := 29) rfl ?_); refine goesL_ (some 145) rfl rfl Tryz.func29 (by kernel_rfl) rfl #[.int .u64 x11_2, .int .i64 (wrap64 (x12_2 + x15_4))] rfl lz ?_; (with_reducible refine (bigdec_Exact.calls k4 x11_2 (wrap64 (x12_2 + x15_4)) t1064 t1065 t1066 _ A111.out).mono ?_); rintro e w151 ⟨rfl, hb⟩; refine ⟨_, rfl, ?_⟩; have n0_ := Aside0.mk (Kd.V_below (by (with_reducible repeat (first | apply Kd.V_alloc | apply Kd.V_drewN | apply Kd.V_drew)); exact HO_114.out) hb); have n1_ := Aside0.mk (blk_below (g := gb1034) (o := .cells #[.int .u64 a0_0, .bool a0_1] 24 (0, 0)) bk hb); have n2_ := Aside0.mk (below_step bz hb); clear HO_114; clear BK1034; clear HB; have HO_114 := n0_; have BK1034 := n1_; have HB := n2_; clear n0_ n1_ n2_; (try clear hb); (try clear hb2); (try clear hk); (try clear hi)) | ((with_reducible refine gate_dst (N := 18) rfl ?_); (try (refine gate_guard (by rfl) ?_; dsimp only)); refine box_event rfl (N := 18) rfl (cs := #[.string (⟨#[]⟩ : ByteArray), .int .i64 0]) (t := 42) gz ?_; intro gb1067 hg w152 hbox hb; have n0_ := Aside0.mk (Kd.V_below (Kd.V_elderB (by (with_reducible repeat (first | apply Kd.V_alloc | apply Kd.V_drewN | apply Kd.V_drew)); exact HO_114.out) gb1067 (Nat.le_of_eq hg.symm)) hb); have n1_ := Aside0.mk (blk_below (g := gb1034) (o := .cells #[.int .u64 a0_0, .bool a0_1] 24 (0, 0)) bk hb); have n2_ := Aside0.mk (below_step bz hb); have n3_ := Aside0.mk (hbox); have n4_ := Aside0.mk ((by rw [hg]; exact (below_size bz) : w.heap.size ≤ gb1067)); have n5_ := Aside0.mk ((by rw [hg]; exact (below_size bz) : w.heap.size ≤ gb1067)); have n6_ := Aside0.mk ((by rw [hg]; exact Nat.ne_of_lt (blk_lt (g := gb1034) (o := .cells #[.int .u64 a0_0, .bool a0_1] 24 (0, 0)) bk) : gb1034 ≠ gb1067)); have n7_ := Aside0.mk ((by rw [hg]; exact Nat.ne_of_gt (blk_lt (g := gb1034) (o := .cells #[.int .u64 a0_0, .bool a0_1] 24 (0, 0)) bk) : gb1067 ≠ gb1034)); clear HO_114; clear BK1034; clear HB; have HO_114 := n0_; have BK1034 := n1_; have HB := n2_; have BK1067 := n3_; have GW1067 := n4_; have GE1067 := n5_; have NB1034_1067 := n6_; have NB1067_1034 := n7_; clear n0_ n1_ n2_ n3_ n4_ n5_ n6_ n7_; clear hb hbox hg; have hnb153 := NB1067_1034.out; have hnc153 := NB1034_1067.out; obtain ⟨hcz154_0, hcz154_1, hfz154_0, hfz154_1⟩ := cz2 (W := w152) BK1067) | ((with_reducible refine gate_callee (f := 29) rfl ?_); refine goesL_ (some 151) rfl rfl Tryz.func29 (by kernel_rfl) rfl #[.int .u64 t1038, .int .i64 t1039] rfl lz ?_; (with_reducible refine (bigdec_Exact.calls k4 t1038 t1039 t1068 t1069 t1070 _ A112.out).mono ?_); rintro e w155 ⟨rfl, hb⟩; refine ⟨_, rfl, ?_⟩; have n0_ := Aside0.mk (Kd.V_below (by (with_reducible repeat (first | apply Kd.V_alloc | apply Kd.V_drewN | apply Kd.V_drew)); exact (Kd.V_mono (Kd.V_far (p := ⟨gb1067, 1, none⟩) (Kd.V_far (p := ⟨gb1067, 0, none⟩) (Kd.V_mono HO_114.out (fun k_ hk => (⟨hk, hk.2⟩ : _ ∧ k_ ≠ gb1067))) (fun _ hk => hk.2) (.string t1064)) (fun _ hk => hk.2) (.int .i64 t1065)) (fun _ h_ => h_.1))) hb); have n1_ := Aside0.mk (blk_below (g := gb1034) (o := .cells #[.int .u64 a0_0, .bool a0_1] 24 (0, 0)) bk hb); have n2_ := Aside0.mk (blk_below (g := gb1067) (o := .cells #[.string t1064, .int .i64 t1065] 42 (0, 0)) bk hb); have n3_ := Aside0.mk (below_step bz hb); clear HO_114; clear BK1034; clear BK1067; clear HB; have HO_114 := n0_; have BK1034 := n1_; have BK1067 := n2_; have HB := n3_; clear n0_ n1_ n2_ n3_; (try clear hb); (try clear hb2); (try clear hk); (try clear hi)) | ((with_reducible refine gate_dst (N := 20) rfl ?_); (try (refine gate_guard (by rfl) ?_; dsimp only)); refine box_event rfl (N := 20) rfl (cs := #[.string (⟨#[]⟩ : ByteArray), .int .i64 0]) (t := 42) gz ?_; intro gb1071 hg w156 hbox hb; have n0_ := Aside0.mk (Kd.V_below (Kd.V_elderB (by (with_reducible repeat (first | apply Kd.V_alloc | apply Kd.V_drewN | apply Kd.V_drew)); exact HO_114.out) gb1071 (Nat.le_of_eq hg.symm)) hb); have n1_ := Aside0.mk (blk_below (g := gb1034) (o := .cells #[.int .u64 a0_0, .bool a0_1] 24 (0, 0)) bk hb); have n2_ := Aside0.mk (blk_below (g := gb1067) (o := .cells #[.string t1064, .int .i64 t1065] 42 (0, 0)) bk hb); have n3_ := Aside0.mk (below_step bz hb); have n4_ := Aside0.mk (hbox); have n5_ := Aside0.mk ((by rw [hg]; exact (below_size bz) : w.heap.size ≤ gb1071)); have n6_ := Aside0.mk ((by rw [hg]; exact (below_size bz) : w.heap.size ≤ gb1071)); have n7_ := Aside0.mk ((by rw [hg]; exact Nat.ne_of_lt (blk_lt (g := gb1034) (o := .cells #[.int .u64 a0_0, .bool a0_1] 24 (0, 0)) bk) : gb1034 ≠ gb1071)); have n8_ := Aside0.mk ((by rw [hg]; exact Nat.ne_of_gt (blk_lt (g := gb1034) (o := .cells #[.int .u64 a0_0, .bool a0_1] 24 (0, 0)) bk) : gb1071 ≠ gb1034)); have n9_ := Aside0.mk ((by rw [hg]; exact Nat.ne_of_lt (blk_lt (g := gb1067) (o := .cells #[.string t1064, .int .i64 t1065] 42 (0, 0)) bk) : gb1067 ≠ gb1071)); have n10_ := Aside0.mk ((by rw [hg]; exact Nat.ne_of_gt (blk_lt (g := gb1067) (o := .cells #[.string t1064, .int .i64 t1065] 42 (0, 0)) bk) : gb1071 ≠ gb1067)); clear HO_114; clear BK1034; clear BK1067; clear HB; have HO_114 := n0_; have BK1034 := n1_; have BK1067 := n2_; have HB := n3_; have BK1071 := n4_; have GW1071 := n5_; have GE1071 := n6_; have NB1034_1071 := n7_; have NB1071_1034 := n8_; have NB1067_1071 := n9_; have NB1071_1067 := n10_; clear n0_ n1_ n2_ n3_ n4_ n5_ n6_ n7_ n8_ n9_ n10_; clear hb hbox hg; have hnb157 := NB1071_1034.out; have hnc157 := NB1034_1071.out; have hnb158 := NB1071_1067.out; have hnc158 := NB1067_1071.out; obtain ⟨hcz159_0, hcz159_1, hfz159_0, hfz159_1⟩ := cz2 (W := w156) BK1071))
                     go_ret
                     exact ⟨by first | rfl | (simp [errW_none, errW_some] <;> rfl) | (simp only [← hji36, ← hji48]; first | rfl | (simp [errW_none, errW_some] <;> rfl)) | (simp [*, errW_none, errW_some] <;> rfl), bz⟩
                   ·replace H := hN H c113
                    obtain ⟨c113b0, c113b1⟩ := eF c113
                    obtain rfl := Option.some.inj H
                    have p51 : 0 ≤ ((ji48) : Int) := of_decide_eq_true (by first | (with_reducible assumption) | assumption)
                    have q51 : (ji48) < (t1049.size : Int) := of_decide_eq_true (by first | (with_reducible assumption) | assumption)
                    have hx51 := bt_at t1049 (ji48)
                    replace p51 := eq_true p51
                    replace q51 := eq_true q51
                    go_wp2_with (first | ((with_reducible refine gate_callee (f := 29) rfl ?_); refine goesL_ (some 145) rfl rfl Tryz.func29 (by kernel_rfl) rfl #[.int .u64 x11_2, .int .i64 (wrap64 (x12_2 + x15_4))] rfl lz ?_; (with_reducible refine (bigdec_Exact.calls k4 x11_2 (wrap64 (x12_2 + x15_4)) t1064 t1065 t1066 _ A111.out).mono ?_); rintro e w160 ⟨rfl, hb⟩; refine ⟨_, rfl, ?_⟩; have n0_ := Aside0.mk (Kd.V_below (by (with_reducible repeat (first | apply Kd.V_alloc | apply Kd.V_drewN | apply Kd.V_drew)); exact HO_114.out) hb); have n1_ := Aside0.mk (blk_below (g := gb1034) (o := .cells #[.int .u64 a0_0, .bool a0_1] 24 (0, 0)) bk hb); have n2_ := Aside0.mk (below_step bz hb); clear HO_114; clear BK1034; clear HB; have HO_114 := n0_; have BK1034 := n1_; have HB := n2_; clear n0_ n1_ n2_; (try clear hb); (try clear hb2); (try clear hk); (try clear hi)) | ((with_reducible refine gate_dst (N := 18) rfl ?_); (try (refine gate_guard (by rfl) ?_; dsimp only)); refine box_event rfl (N := 18) rfl (cs := #[.string (⟨#[]⟩ : ByteArray), .int .i64 0]) (t := 42) gz ?_; intro gb1067 hg w161 hbox hb; have n0_ := Aside0.mk (Kd.V_below (Kd.V_elderB (by (with_reducible repeat (first | apply Kd.V_alloc | apply Kd.V_drewN | apply Kd.V_drew)); exact HO_114.out) gb1067 (Nat.le_of_eq hg.symm)) hb); have n1_ := Aside0.mk (blk_below (g := gb1034) (o := .cells #[.int .u64 a0_0, .bool a0_1] 24 (0, 0)) bk hb); have n2_ := Aside0.mk (below_step bz hb); have n3_ := Aside0.mk (hbox); have n4_ := Aside0.mk ((by rw [hg]; exact (below_size bz) : w.heap.size ≤ gb1067)); have n5_ := Aside0.mk ((by rw [hg]; exact (below_size bz) : w.heap.size ≤ gb1067)); have n6_ := Aside0.mk ((by rw [hg]; exact Nat.ne_of_lt (blk_lt (g := gb1034) (o := .cells #[.int .u64 a0_0, .bool a0_1] 24 (0, 0)) bk) : gb1034 ≠ gb1067)); have n7_ := Aside0.mk ((by rw [hg]; exact Nat.ne_of_gt (blk_lt (g := gb1034) (o := .cells #[.int .u64 a0_0, .bool a0_1] 24 (0, 0)) bk) : gb1067 ≠ gb1034)); clear HO_114; clear BK1034; clear HB; have HO_114 := n0_; have BK1034 := n1_; have HB := n2_; have BK1067 := n3_; have GW1067 := n4_; have GE1067 := n5_; have NB1034_1067 := n6_; have NB1067_1034 := n7_; clear n0_ n1_ n2_ n3_ n4_ n5_ n6_ n7_; clear hb hbox hg; have hnb162 := NB1067_1034.out; have hnc162 := NB1034_1067.out; obtain ⟨hcz163_0, hcz163_1, hfz163_0, hfz163_1⟩ := cz2 (W := w161) BK1067) | ((with_reducible refine gate_callee (f := 29) rfl ?_); refine goesL_ (some 151) rfl rfl Tryz.func29 (by kernel_rfl) rfl #[.int .u64 t1038, .int .i64 t1039] rfl lz ?_; (with_reducible refine (bigdec_Exact.calls k4 t1038 t1039 t1068 t1069 t1070 _ A112.out).mono ?_); rintro e w164 ⟨rfl, hb⟩; refine ⟨_, rfl, ?_⟩; have n0_ := Aside0.mk (Kd.V_below (by (with_reducible repeat (first | apply Kd.V_alloc | apply Kd.V_drewN | apply Kd.V_drew)); exact (Kd.V_mono (Kd.V_far (p := ⟨gb1067, 1, none⟩) (Kd.V_far (p := ⟨gb1067, 0, none⟩) (Kd.V_mono HO_114.out (fun k_ hk => (⟨hk, hk.2⟩ : _ ∧ k_ ≠ gb1067))) (fun _ hk => hk.2) (.string t1064)) (fun _ hk => hk.2) (.int .i64 t1065)) (fun _ h_ => h_.1))) hb); have n1_ := Aside0.mk (blk_below (g := gb1034) (o := .cells #[.int .u64 a0_0, .bool a0_1] 24 (0, 0)) bk hb); have n2_ := Aside0.mk (blk_below (g := gb1067) (o := .cells #[.string t1064, .int .i64 t1065] 42 (0, 0)) bk hb); have n3_ := Aside0.mk (below_step bz hb); clear HO_114; clear BK1034; clear BK1067; clear HB; have HO_114 := n0_; have BK1034 := n1_; have BK1067 := n2_; have HB := n3_; clear n0_ n1_ n2_ n3_; (try clear hb); (try clear hb2); (try clear hk); (try clear hi)) | ((with_reducible refine gate_dst (N := 20) rfl ?_); (try (refine gate_guard (by rfl) ?_; dsimp only)); refine box_event rfl (N := 20) rfl (cs := #[.string (⟨#[]⟩ : ByteArray), .int .i64 0]) (t := 42) gz ?_; intro gb1071 hg w165 hbox hb; have n0_ := Aside0.mk (Kd.V_below (Kd.V_elderB (by (with_reducible repeat (first | apply Kd.V_alloc | apply Kd.V_drewN | apply Kd.V_drew)); exact HO_114.out) gb1071 (Nat.le_of_eq hg.symm)) hb); have n1_ := Aside0.mk (blk_below (g := gb1034) (o := .cells #[.int .u64 a0_0, .bool a0_1] 24 (0, 0)) bk hb); have n2_ := Aside0.mk (blk_below (g := gb1067) (o := .cells #[.string t1064, .int .i64 t1065] 42 (0, 0)) bk hb); have n3_ := Aside0.mk (below_step bz hb); have n4_ := Aside0.mk (hbox); have n5_ := Aside0.mk ((by rw [hg]; exact (below_size bz) : w.heap.size ≤ gb1071)); have n6_ := Aside0.mk ((by rw [hg]; exact (below_size bz) : w.heap.size ≤ gb1071)); have n7_ := Aside0.mk ((by rw [hg]; exact Nat.ne_of_lt (blk_lt (g := gb1034) (o := .cells #[.int .u64 a0_0, .bool a0_1] 24 (0, 0)) bk) : gb1034 ≠ gb1071)); have n8_ := Aside0.mk ((by rw [hg]; exact Nat.ne_of_gt (blk_lt (g := gb1034) (o := .cells #[.int .u64 a0_0, .bool a0_1] 24 (0, 0)) bk) : gb1071 ≠ gb1034)); have n9_ := Aside0.mk ((by rw [hg]; exact Nat.ne_of_lt (blk_lt (g := gb1067) (o := .cells #[.string t1064, .int .i64 t1065] 42 (0, 0)) bk) : gb1067 ≠ gb1071)); have n10_ := Aside0.mk ((by rw [hg]; exact Nat.ne_of_gt (blk_lt (g := gb1067) (o := .cells #[.string t1064, .int .i64 t1065] 42 (0, 0)) bk) : gb1071 ≠ gb1067)); clear HO_114; clear BK1034; clear BK1067; clear HB; have HO_114 := n0_; have BK1034 := n1_; have BK1067 := n2_; have HB := n3_; have BK1071 := n4_; have GW1071 := n5_; have GE1071 := n6_; have NB1034_1071 := n7_; have NB1071_1034 := n8_; have NB1067_1071 := n9_; have NB1071_1067 := n10_; clear n0_ n1_ n2_ n3_ n4_ n5_ n6_ n7_ n8_ n9_ n10_; clear hb hbox hg; have hnb166 := NB1071_1034.out; have hnc166 := NB1034_1071.out; have hnb167 := NB1071_1067.out; have hnc167 := NB1067_1071.out; obtain ⟨hcz168_0, hcz168_1, hfz168_0, hfz168_1⟩ := cz2 (W := w165) BK1071))
                    go_ret
                    exact ⟨by first | rfl | (simp [errW_none, errW_some] <;> rfl) | (simp only [← hji36, ← hji48]; first | rfl | (simp [errW_none, errW_some] <;> rfl)) | (simp [*, errW_none, errW_some] <;> rfl), bz⟩
                 ·replace H := hN H c50
                  exact absurd H (by simp)
                ·replace H := hN H c49
                 exact absurd H (by simp)
            ·replace H := hN H c39
             exact absurd H (by simp)
           ·replace H := hN H c38
            exact absurd H (by simp)
          ·replace H := hN H c37
           exact absurd H (by simp)
end Go.Proofs.YtecpgdfnamkfdaaGreatDoor.Fn
end
