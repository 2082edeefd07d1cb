/- The law FloatsExact: the walks through its functions and its plain law (part 5). Own texts and the kit's printed words for this seat, without what the law does not use: put together by merge.py (of this work). -/
import Derived.Test.YtecpgdfnamkfdaaGreatDoorMFloatsExact4
import Derived.Handy
section
namespace Go.Proofs.YtecpgdfnamkfdaaGreatDoor.Pure
open Go.RowKit Go.Proofs.YtecpgdfnamkfdaaGreatDoorW.PrintWords Go.Proofs.YtecpgdfnamkfdaaGreatDoorW.PrintLast Go.Proofs.YtecpgdfnamkfdaaGreatDoorW.PrintMore Go.Proofs.YtecpgdfnamkfdaaGreatDoor.Fn
set_option linter.unusedVariables false
set_option linter.unusedSimpArgs false
structure Near (v : List UInt8 × Int) : Prop where
  form : InForm v.1 v.2
  len : v.1.length ≤ 1300
  lo : -2600 ≤ v.2
  hi : v.2 ≤ 1400
theorem Near.five{v:List UInt8×Int}(h:Near v):v.1.length≤2000∧ -5000≤v.2∧v.2≤5000:=by
  have:=h.len
  have:=h.lo
  have:=h.hi
  omega
theorem zcm{m:Nat}(hm:m<18446744073709551616){e:Int}(h: -1200≤e∧e≤1200):Near (exD m e):=by
  have h1:=zcx hm h
  exact⟨zcM m e,h1.1,by omega,by omega⟩
theorem zdt(b s:Int){m:Nat}(hm:m<18446744073709551616){e:Int}(h: -1200≤e∧e≤1200)(prec v:Int)(dot:Bool):
    Ev (fun k=>zaX.f k b s (m:Int) e prec dot v) (S (exD m e).1,(exD m e).2):=by
  have hx:=zcj m e hm
  rw[zb3 m h] at hx
  unfold zaX.f
  exact Ev.bind hx (Ev.now _)
theorem zcD{v:List UInt8×Int}(h:Near v)(n:Int):Ev (fun k=>za2.f k (S v.1) v.2 n) (S (roundN v.1 v.2 n).1,(roundN v.1 v.2 n).2,0):=by
  have hr:=zeK (S v.1) v.2 n
  have h5:=h.five
  unfold roundS at hr
  rw[zca h.form h5.1 h5.2,if_pos rfl] at hr
  simp only[L_S] at hr
  exact hr
theorem zdK{v:List UInt8×Int}(h:Near v){n:Int}(hn: -20000≤n∧n≤20000):Ev (fun k=>zaQ.f k (S v.1) v.2 n) (S (roundN v.1 v.2 (v.2+n)).1,(roundN v.1 v.2 (v.2+n)).2,0):=by
  have hr:=zf9 (S v.1) v.2 n
  have h5:=h.five
  unfold roundS at hr
  rw[zca h.form h5.1 h5.2,if_pos rfl,show max (-20000) (min n 20000)=n by omega] at hr
  simp only[L_S] at hr
  exact hr
theorem zcg{v:List UInt8×Int}(h:InForm v.1 v.2)(n:Int):InForm (roundN v.1 v.2 n).1 (roundN v.1 v.2 n).2:=by
  unfold roundN
  split
  · exact⟨AllD.nil,fun c t e=>(by cases e),rfl,fun _=>rfl⟩
  · split
    · exact h
    · split<;>exact zba _ _
theorem zbD{v:List UInt8×Int}(h:Near v)(n:Int):(roundN v.1 v.2 n).1.length≤1300∧ -4000≤(roundN v.1 v.2 n).2∧(roundN v.1 v.2 n).2≤1500:=by
  have h1:=h.len
  have h2:=h.lo
  have h3:=h.hi
  unfold roundN
  by_cases c1:n<0
  · rw[if_pos c1];exact⟨Nat.zero_le _,by decide,by decide⟩
  · rw[if_neg c1]
    by_cases c2:(v.1.length:Int)≤n
    · rw[if_pos c2];exact⟨h1,by omega,by omega⟩
    · rw[if_neg c2]
      have hn:n.toNat<v.1.length:=by omega
      have hv:=zb6 (h.form.1.take n.toNat)
      rw[List.length_take,Nat.min_eq_left (Nat.le_of_lt hn)] at hv
      have hp:10^n.toNat≤10^(n.toNat+1):=Nat.pow_le_pow_right (by decide) (Nat.le_succ _)
      have b1:=zbC (n:=val (v.1.take n.toNat)) (m:=n.toNat+1) (by omega) (v.2-n)
      have A:10^n.toNat+1≤10^(n.toNat+1):=by
        rw[Nat.pow_succ]
        have:1≤10^n.toNat:=Nat.pow_pos (by decide)
        omega
      have b2:=zbC (n:=val (v.1.take n.toNat)+1) (m:=n.toNat+1) (by omega) (v.2-n)
      split
      · exact⟨by omega,by omega,by omega⟩
      · exact⟨by omega,by omega,by omega⟩
theorem zfQ{l:List UInt8}{n:Int}(h:1≤n):fillL l n≠[]:=by
  intro e
  have:=zbf l n
  rw[e] at this
  simp at this
  omega
theorem zbZ{d:List UInt8×Int}(h: -4000≤d.2∧d.2≤1500): -4001≤firstL d∧firstL d≤1500:=by
  unfold firstL
  split<;>omega
def six(prec:Int):Int:=if prec<0 then 6 else prec
theorem zgR(b s:Int){m:Nat}(hm:m<18446744073709551616){e:Int}(h: -1200≤e∧e≤1200){prec:Int}(hp: -1≤prec∧prec≤1000)(v:Int)(dot:Bool):
    Ev (fun k=>zam.f k b s (m:Int) e prec dot v) (S (scaledL dot (bigV v) (exD m e) (six prec))):=by
  have hx:=zcm hm h
  have key: ∀p:Int,0≤p→p≤1000→Ev (fun k=>zam.j0 k p b s (m:Int) e prec dot v) (S (scaledL dot (bigV v) (exD m e) p)):=by
    intro p p0 p1
    have hb:=zbD hx (p+1)
    have hfl:=zbf (roundN (exD m e).1 (exD m e).2 (p+1)).1 (p+1)
    have hfb:=zbZ (d:=roundN (exD m e).1 (exD m e).2 (p+1)) hb.2
    refine Ev.step (fun k=>by simp only[zam.j0];rfl) ?_
    refine Ev.bind (zdt b s hm h prec v dot) ?_
    rw[w64 (x:=p+1) (by omega) (by omega)]
    refine Ev.bind (zcD hx (p+1)) ?_
    unfold scaledL
    generalize roundN (exD m e).1 (exD m e).2 (p+1)=d at*
    obtain⟨l,q⟩:=d
    dsimp only at hb hfl hfb ⊢
    rw[zce (by omega) (by omega)]
    simp only[Option.bind_some]
    rw[zdX _ (by omega)]
    simp only[Option.bind_some]
    exact Ev.bind (zgK b s (m:Int) e prec v dot (zfQ (by omega)) (by omega) (by omega)) (Ev.now _)
  unfold zam.f six
  by_cases c:prec<0
  · rw[if_pos c]
    exact Ev.congr (fun k=>if_pos c) (key 6 (by decide) (by decide))
  · rw[if_neg c]
    exact Ev.congr (fun k=>if_neg c) (key prec (by omega) hp.2)
theorem zhy(b s:Int){m:Nat}(hm:m<18446744073709551616){e:Int}(h: -1200≤e∧e≤1200){prec:Int}(hp: -1≤prec∧prec≤1000)(v:Int)(dot:Bool):
    Ev (fun k=>zal.f k b s (m:Int) e prec dot v) (S (fixedL dot (exD m e) (six prec))):=by
  have hx:=zcm hm h
  have key: ∀p:Int,0≤p→p≤1000→Ev (fun k=>zal.j0 k p b s (m:Int) e prec dot v) (S (fixedL dot (exD m e) p)):=by
    intro p p0 p1
    have hb:=zbD hx ((exD m e).2+p)
    refine Ev.step (fun k=>by simp only[zal.j0];rfl) ?_
    refine Ev.bind (zdt b s hm h prec v dot) ?_
    refine Ev.bind (zdK hx (by omega)) ?_
    unfold fixedL
    generalize roundN (exD m e).1 (exD m e).2 ((exD m e).2+p)=d at*
    obtain⟨l,q⟩:=d
    dsimp only at hb ⊢
    by_cases c1:l=[]
    · refine Ev.congr (fun k=>if_pos ((zbN l).2 c1)) ?_
      rw[if_pos c1,zcl (by omega) (by omega)]
      simp only[Option.bind_some]
      rw[show(⟨#[48]⟩:ByteArray)=S [48] from rfl,zb2 _ _ _ _ _ _ _ (by rw[zbe];simp;omega)]
      exact Ev.now _
    · refine Ev.congr (fun k=>if_neg (fun e=>c1 ((zbN l).1 e))) ?_
      rw[if_neg c1]
      by_cases c2:q≤0
      · refine Ev.congr (fun k=>if_pos c2) ?_
        rw[if_pos c2,w64 (x:= -q) (by omega) (by omega),zcl (by omega) (by omega)]
        simp only[Option.bind_some]
        refine Ev.congr (fun k=>if_pos (by rw[zau,zau,zbe];omega)) ?_
        have hfl:=zbf (zsL (-q).toNat++l) p
        rw[List.length_append,zbe] at hfl
        rw[zbY,zce (by rw[List.length_append,zbe];omega) (by omega)]
        simp only[Option.bind_some]
        rw[show(⟨#[48]⟩:ByteArray)=S [48] from rfl,zb2 _ _ _ _ _ _ _ (by simp;omega)]
        exact Ev.now _
      · refine Ev.congr (fun k=>if_neg c2) ?_
        have hfl:=zbf l (q+p)
        rw[if_neg c2,w64 (x:=q+p) (by omega) (by omega),zce (by omega) (by omega)]
        simp only[Option.bind_some]
        rw[zeN _ _ _ _ _ _ _ (by omega) (by omega)]
        exact Ev.now _
  unfold zal.f six
  by_cases c:prec<0
  · rw[if_pos c]
    exact Ev.congr (fun k=>if_pos c) (key 6 (by decide) (by decide))
  · rw[if_neg c]
    exact Ev.congr (fun k=>if_neg c) (key prec (by omega) hp.2)
theorem zfm(b s m e prec v:Int)(dot:Bool){d:List UInt8×Int}(hd:d.1.length≤2000∧ -4000≤d.2∧d.2≤1500){keep top:Int}(hk:1≤keep∧keep≤1000):
    Ev (fun k=>zai.j0 k top keep b s m e prec dot v (S d.1) d.2) (S (genL dot (bigV v) d keep top)):=by
  obtain⟨l,q⟩:=d
  dsimp only at hd ⊢
  have hfb:=zbZ (d:=(l,q)) hd.2
  have h3: ∀(x:List UInt8),x≠[]→x.length≤5000→Ev (fun k=>zai.j2 k top (S x) b s m e prec dot v (S l) q) (S (if firstL (l,q)< -4∨firstL (l,q)≥top then sciL dot (bigV v) x (firstL (l,q)) else aroundL dot x (firstL (l,q)+1))):=by
    intro x hx hxl
    refine Ev.step (fun k=>by simp only[zai.j2];rfl) ?_
    rw[zdX l (by omega)]
    simp only[Option.bind_some]
    obtain⟨z,hzz⟩: ∃z,firstL (l,q)=z:=⟨_,rfl⟩
    rw[hzz] at hfb ⊢
    have hs:Ev (fun k=>zai.j3 k (S x) z true b s m e prec dot v (S l) q) (S (sciL dot (bigV v) x z)):=by
      refine Ev.step (fun k=>by simp only[zai.j3];rfl) ?_
      refine Ev.congr (fun k=>if_pos trivial) ?_
      exact Ev.bind (zgK b s m e prec v dot hx (by omega) (by omega)) (Ev.now _)
    by_cases c1:z< -4
    · rw[if_pos (.inl c1)]
      exact Ev.congr (fun k=>if_pos c1) hs
    · refine Ev.congr (fun k=>if_neg c1) ?_
      by_cases c2:z≥top
      · rw[if_pos (.inr c2),decide_eq_true c2]
        exact hs
      · rw[if_neg (by omega),decide_eq_false c2]
        refine Ev.step (fun k=>by simp only[zai.j3];rfl) ?_
        refine Ev.congr (fun k=>if_neg (by simp)) ?_
        rw[zdX l (by omega)]
        simp only[Option.bind_some]
        have hz: -100000≤firstL (l,q)+1∧firstL (l,q)+1≤100000:=by have:=zbZ (d:=(l,q)) hd.2;omega
        rw[w64 (x:=firstL (l,q)+1) (by omega) (by omega),zeN b s m e prec v dot (by omega) hz,hzz]
        exact Ev.now _
  have h2: ∀(x:List UInt8),x≠[]→x.length≤2000→Ev (fun k=>zai.j1 k top keep (S x) b s m e prec dot v (S l) q) (S (if firstL (l,q)< -4∨firstL (l,q)≥top then sciL dot (bigV v) (if dot then fillL x keep else x) (firstL (l,q)) else aroundL dot (if dot then fillL x keep else x) (firstL (l,q)+1))):=by
    intro x hx hxl
    refine Ev.step (fun k=>by simp only[zai.j1];rfl) ?_
    cases dot with
    |true=>
      refine Ev.congr (fun k=>if_pos rfl) ?_
      have hfl:=zbf x keep
      rw[zce (by omega) (by omega)]
      simp only[Option.bind_some]
      exact h3 _ (zfQ hk.1) (by omega)
    |false=>
      refine Ev.congr (fun k=>if_neg (by simp)) ?_
      exact h3 x hx (by omega)
  refine Ev.step (fun k=>by simp only[zai.j0];rfl) ?_
  unfold genL
  dsimp only
  by_cases c:l=[]
  · refine Ev.congr (fun k=>if_pos ((zbN l).2 c)) ?_
    rw[if_pos c]
    exact h2 [48] (by simp) (by simp)
  · refine Ev.congr (fun k=>if_neg (fun e=>c ((zbN l).1 e))) ?_
    rw[if_neg c]
    exact h2 l c hd.1
def shortL(wide:Bool)(p:Nat):List UInt8×Int:=if p=0 then([],0) else shortD wide p
def genOf(wide:Bool)(p:Nat)(m:Nat)(e prec:Int)(dot big:Bool):List UInt8:=
  if prec<0 then genL dot big (shortL wide p) 6 21 else genL dot big (roundN (exD m e).1 (exD m e).2 (max prec 1)) (max prec 1) (max prec 1)
theorem zi6(wide:Bool){a p:Nat}(ha:a<18446744073709551616)(hb:bareN wide a=p)(hp:p<ii wide)(hs:(shortL wide p).1.length≤2000∧ -4000≤(shortL wide p).2∧(shortL wide p).2≤1500){m:Nat}(hm:m<18446744073709551616){e:Int}(h: -1200≤e∧e≤1200){prec:Int}(hq: -1≤prec∧prec≤1000)(v:Int)(dot:Bool):
    Ev (fun k=>zai.f k (a:Int) (szB wide) (m:Int) e prec dot v) (S (genOf wide p m e prec dot (bigV v))):=by
  unfold zai.f genOf
  by_cases c:prec<0
  · rw[if_pos c]
    refine Ev.congr (fun k=>if_pos c) ?_
    have hx:=zfx wide a ha
    have e1:shortS wide a=(S (shortL wide p).1,(shortL wide p).2,0):=by
      unfold shortS shortL
      rw[hb,if_neg (by omega)]
      split<;>rfl
    rw[e1] at hx
    refine Ev.bind hx ?_
    exact zfm _ _ _ _ _ v dot hs (by decide)
  · rw[if_neg c]
    refine Ev.congr (fun k=>if_neg c) ?_
    have hn:=zcm hm h
    have hbd:=zbD hn (max prec 1)
    refine Ev.bind (zdt _ _ hm h prec v dot) ?_
    rw[zcC]
    refine Ev.bind (zcD hn (max prec 1)) ?_
    exact zfm _ _ _ _ _ v dot (by omega) (by omega)
theorem zfn(x j:Nat)(hj:j≤64):shl .u64 (x:Int) (j:Int)=((x*2^j%18446744073709551616:Nat):Int):=by
  unfold shl
  rw[Int.toNat_natCast,show min j (IntKind.u64.bits)=j from Nat.min_eq_left (by simpa [IntKind.bits] using hj),IntKind.wrap_u64]
  rw[show((2:Int)^j)=((2^j:Nat):Int) by simp]
  generalize 2^j=P
  rw[←Int.natCast_mul]
  generalize x*P=y
  omega
def hexEnd(dot up:Bool)(lead ds:List UInt8)(x:Int):List UInt8:=
  if up then Lib.toUpperA ([48,120]++(ptL dot lead ds++powL [112] x 2)) else [48,120]++(ptL dot lead ds++powL [112] x 2)
theorem zcV(b s m e prec v:Int)(dot:Bool){lead ds:List UInt8}{x:Int}(hl:lead.length≤10∧Asc lead)(hd:ds.length≤2000∧Asc ds)(hx: -100000≤x∧x≤100000):
    Ev (fun k=>zae.j4 k (S lead) x (S ds) b s m e prec dot v) (S (hexEnd dot (v==88) lead ds x)):=by
  have h1:=zbV dot lead ds
  have h2:=zb9 ([112]:List UInt8) (e:=x) (least:=2) (by decide)
  have ha:Asc ([48,120]++(ptL dot lead ds++powL [112] x 2)):=Asc.app (by decide) ((zck hl.2 hd.2 dot).app (zdd (by decide) x 2))
  refine Ev.step (fun k=>by simp only[zae.j4];rfl) ?_
  rw[zb2 b s m e prec v dot (by omega)]
  simp only[Option.bind_some]
  rw[show(⟨#[112]⟩:ByteArray)=S [112] from rfl,zdW (by decide) hx (by decide)]
  simp only[Option.bind_some]
  rw[show(⟨#[48,120]⟩:ByteArray)=S [48,120] from rfl,zfJ (by simp at h2 ⊢;omega)]
  simp only[Option.bind_some]
  unfold hexEnd
  by_cases c:v=88
  · refine Ev.congr (fun k=>if_pos c) ?_
    rw[show(v==88)=true from beq_iff_eq.mpr c,if_pos rfl]
    have hu:zbm.f (S ([48,120]++(ptL dot lead ds++powL [112] x 2)))=some (S (Lib.toUpperA ([48,120]++(ptL dot lead ds++powL [112] x 2)))):=by
      unfold zbm.f
      rw[if_pos ⟨by rw[zau];simp at h2 ⊢;omega,List.all_eq_true.2 (fun c hc=>decide_eq_true (ha c hc))⟩]
      rfl
    rw[hu]
    exact Ev.now _
  · refine Ev.congr (fun k=>if_neg c) ?_
    rw[show(v==88)=false from beq_eq_false_iff_ne.mpr c,if_neg (by simp)]
    exact Ev.now _
def hexUp(lead:List UInt8)(part p:Nat):Prop:=
  9223372036854775808<part*2^(4*p)%18446744073709551616∨(part*2^(4*p)%18446744073709551616=9223372036854775808∧(part / 2^(64-4*p)%2=1∨(p=0∧lead=[49])))
instance (lead : List UInt8) (part p : Nat) : Decidable (hexUp lead part p) := by unfold hexUp; infer_instance
def hexKept(lead:List UInt8)(part p:Nat):Nat:=if hexUp lead part p then part / 2^(64-4*p)+1 else part / 2^(64-4*p)
def hexMid(dot up:Bool)(lead:List UInt8)(part p:Nat)(x:Int):List UInt8:=
  let over:=0<hexKept lead part p / 2^(4*p)
  hexEnd dot up lead (if p=0 then [] else(sixL (if over then 0 else hexKept lead part p*2^(64-4*p)%18446744073709551616)).take p) (if over then x+1 else x)
def hexTail(dot up:Bool)(lead:List UInt8)(part:Nat)(x prec:Int):List UInt8:=
  if prec<0 then hexEnd dot up lead (rz (sixL part)) x else if prec≥16 then hexEnd dot up lead (fillL (sixL part) prec) x else hexMid dot up lead part prec.toNat x
def hexL(m:Nat)(e prec:Int)(dot up:Bool):List UInt8:=
  if m=0 then hexTail dot up [48] 0 0 prec else hexTail dot up [49] (m*2^(64-Lib.bitLen m)%18446744073709551616*2%18446744073709551616) (e+Lib.bitLen m-1) prec
theorem zcI(n:Nat):Asc (sixL n):=(zcH _).app (zfe (by decide) n)
theorem zgS{l:List UInt8}(h:Asc l):Asc (rz l):=by
  obtain⟨k,hk⟩:=zcR l
  intro c hc
  exact h c (by rw[hk];exact List.mem_append_left _ hc)
theorem zgT(l:List UInt8):(rz l).length≤l.length:=zcc l
theorem zei(b s m e v:Int)(dot:Bool){lead:List UInt8}(hl:lead=[48]∨lead=[49]){part:Nat}(hp:part≤18446744073709551615){x:Int}(hx: -90000≤x∧x≤90000){prec:Int}(hq: -1≤prec∧prec≤1000):
    Ev (fun k=>zae.j0 k (S lead) (part:Int) x b s m e prec dot v) (S (hexTail dot (v==88) lead part x prec)):=by
  have A:lead.length≤10∧Asc lead:=by rcases hl with rfl|rfl<;>exact⟨by decide,by decide⟩
  have hsl:=zdY hp
  refine Ev.step (fun k=>by simp only[zae.j0];rfl) ?_
  unfold hexTail
  by_cases c1:prec<0
  · refine Ev.congr (fun k=>if_pos c1) ?_
    rw[if_pos c1,zfg hp]
    simp only[Option.bind_some]
    have hr:=zgT (sixL part)
    rw[trimR _ (by rw[zau];omega),L_S]
    simp only[Option.bind_some]
    exact zcV b s m e prec v dot A ⟨by omega,zgS (zcI _)⟩ (by omega)
  · refine Ev.congr (fun k=>if_neg c1) ?_
    rw[if_neg c1]
    by_cases c2:prec≥16
    · refine Ev.congr (fun k=>if_pos c2) ?_
      have hfl:=zbf (sixL part) prec
      rw[if_pos c2,zfg hp]
      simp only[Option.bind_some]
      rw[zce (by omega) (by omega)]
      simp only[Option.bind_some]
      exact zcV b s m e prec v dot A ⟨by omega,zbM (zcI _) _⟩ (by omega)
    · refine Ev.congr (fun k=>if_neg c2) ?_
      rw[if_neg c2]
      obtain⟨p,rfl⟩: ∃p:Nat,prec=p:=⟨prec.toNat,by omega⟩
      rw[Int.toNat_natCast]
      have O:p<16:=by omega
      have w1:IntKind.u64.wrap (wrap64 (64-wrap64 (4*(p:Int))))=((64-4*p:Nat):Int):=by
        rw[w64 (x:=4*(p:Int)) (by omega) (by omega),w64 (by omega) (by omega),show(64-4*(p:Int))=((64-4*p:Nat):Int) by omega]
        exact u64c _ (by omega)
      have w2:IntKind.u64.wrap (64-((64-4*p:Nat):Int))=((4*p:Nat):Int):=by
        rw[show(64-((64-4*p:Nat):Int))=((4*p:Nat):Int) by omega]
        exact u64c _ (by omega)
      rw[w1,w2]
      refine Ev.congr (fun k=>if_pos (by omega)) ?_
      have hlow: ∀low:Int,low=((part*2^(4*p)%18446744073709551616:Nat):Int)→Ev (fun k=>zae.j1 k (S lead) (part:Int) x (⟨#[]⟩:ByteArray) ((64-4*p:Nat):Int) low b s m e (p:Int) dot v) (S (hexMid dot (v==88) lead part p x)):=by
        intro low hlo
        have hkb:part / 2^(64-4*p)≤18446744073709551615:=Nat.le_trans (Nat.div_le_self _ _) hp
        have J:part / 2^(64-4*p)<2^(4*p):=by
          refine Nat.div_lt_of_lt_mul ?_
          rw[←Nat.pow_add,show 64-4*p+4*p=64 by omega]
          omega
        have hpw:2^(4*p)≤2^60:=Nat.pow_le_pow_right (by decide) (by omega)
        have X:(2:Nat)^60=1152921504606846976:=by decide
        have hsh:=zed part (64-4*p) (by omega)
        have key: ∀u:Bool,u=decide (hexUp lead part p)→Ev (fun k=>zae.j3 k (S lead) x (⟨#[]⟩:ByteArray) ((64-4*p:Nat):Int) ((part / 2^(64-4*p):Nat):Int) u b s m e (p:Int) dot v) (S (hexMid dot (v==88) lead part p x)):=by
          intro u hu
          unfold hexMid hexKept
          dsimp only
          have fin: ∀(kk:Nat) (y:Int),kk≤18446744073709551615→ -90001≤y∧y≤90001→
              Ev (fun k=>if(p:Int)>0 then(if 0≤((64-4*p:Nat):Int) then((zaV.f (shl .u64 (kk:Int) ((64-4*p:Nat):Int))).bind fun B=>(if 0≤(p:Int) then(if(p:Int)≤(B.size:Int) then(zae.j4 k (S lead) y (B.extract 0 ((p:Int)).toNat) b s m e (p:Int) dot v) else none) else none)) else none) else(zae.j4 k (S lead) y (⟨#[]⟩:ByteArray) b s m e (p:Int) dot v))
                (S (hexEnd dot (v==88) lead (if p=0 then [] else(sixL (kk*2^(64-4*p)%18446744073709551616)).take p) y)):=by
            intro kk y hkk hy
            by_cases c0:p=0
            · subst c0
              exact Ev.congr (fun k=>if_neg (by decide)) (zcV (ds:=[]) b s m e _ v dot A ⟨by decide,Asc.nil⟩ (by omega))
            · have D:kk*2^(64-4*p)%18446744073709551616≤18446744073709551615:=by omega
              have U:=zdY D
              refine Ev.congr (fun k=>if_pos (by omega)) ?_
              refine Ev.congr (fun k=>if_pos (by omega)) ?_
              rw[zfn kk (64-4*p) (by omega),zfg D]
              simp only[Option.bind_some]
              refine Ev.congr (fun k=>if_pos (by omega)) ?_
              refine Ev.congr (fun k=>if_pos (by rw[zau];omega)) ?_
              rw[Int.toNat_natCast,zcu,if_neg c0]
              exact zcV b s m e _ v dot A ⟨by rw[List.length_take];omega,(zcI _).take p⟩ (by omega)
          refine Ev.step (fun k=>by simp only[zae.j3];rfl) ?_
          by_cases cu:hexUp lead part p
          · have E:u=true:=by rw[hu];exact decide_eq_true cu
            subst E
            rw[if_pos cu]
            refine Ev.congr (fun k=>if_pos rfl) ?_
            generalize hK:part / 2^(64-4*p)=K at*
            have I:K+1≤18446744073709551615:=by omega
            have w3:IntKind.u64.wrap ((K:Int)+1)=((K+1:Nat):Int):=by
              rw[show((K:Int)+1)=((K+1:Nat):Int) by omega]
              exact u64c _ I
            rw[w2,w3,zed (K+1) (4*p) (by omega)]
            refine Ev.congr (fun k=>if_pos (by omega)) ?_
            by_cases co:0<(K+1) / 2^(4*p)
            · refine Ev.congr (fun k=>if_pos (by omega)) ?_
              rw[if_pos co,if_pos co,w64 (x:=x+1) (by omega) (by omega)]
              have:=fin 0 (x+1) (by decide) (by omega)
              rw[Nat.zero_mul,Nat.zero_mod] at this
              exact this
            · refine Ev.congr (fun k=>if_neg (by omega)) ?_
              rw[if_neg co,if_neg co]
              exact fin (K+1) x I (by omega)
          · have E:u=false:=by rw[hu];exact decide_eq_false cu
            subst E
            have hz:part / 2^(64-4*p) / 2^(4*p)=0:=Nat.div_eq_of_lt J
            rw[if_neg cu,hz]
            simp only[Nat.lt_irrefl,if_false]
            refine Ev.congr (fun k=>if_neg (by simp)) ?_
            exact fin _ x hkb (by omega)
        have j2: ∀odd:Bool,odd=decide (part / 2^(64-4*p)%2=1∨(p=0∧lead=[49]))→Ev (fun k=>zae.j2 k (S lead) x (⟨#[]⟩:ByteArray) ((64-4*p:Nat):Int) low ((part / 2^(64-4*p):Nat):Int) odd b s m e (p:Int) dot v) (S (hexMid dot (v==88) lead part p x)):=by
          intro odd hodd
          refine Ev.step (fun k=>by simp only[zae.j2];rfl) ?_
          rw[hlo]
          generalize hW:part*2^(4*p)%18446744073709551616=W at*
          by_cases d1:9223372036854775808<W
          · refine Ev.congr (fun k=>if_pos (by omega)) ?_
            exact key true (by rw[eq_comm];refine decide_eq_true ?_;unfold hexUp;rw[hW];exact .inl d1)
          · refine Ev.congr (fun k=>if_neg (by omega)) ?_
            by_cases d2:W=9223372036854775808
            · refine Ev.congr (fun k=>if_pos (by omega)) ?_
              refine key odd ?_
              rw[hodd]
              refine decide_eq_decide.2 ?_
              unfold hexUp
              rw[hW]
              exact⟨fun h=>.inr ⟨d2,h⟩,fun h=>h.elim (fun h=>absurd h d1) (fun h=>h.2)⟩
            · refine Ev.congr (fun k=>if_neg (by omega)) ?_
              exact key false (by rw[eq_comm];refine decide_eq_false ?_;unfold hexUp;rw[hW];rintro(h|h);exact d1 h;exact d2 h.1)
        refine Ev.step (fun k=>by simp only[zae.j1];rfl) ?_
        refine Ev.congr (fun k=>if_pos (by omega)) ?_
        rw[hsh,show Int.tmod ((part / 2^(64-4*p):Nat):Int) 2=((part / 2^(64-4*p)%2:Nat):Int) from tmodN _ 2]
        by_cases d:part / 2^(64-4*p)%2=1
        · refine Ev.congr (fun k=>if_pos (by omega)) ?_
          exact j2 true (by rw[eq_comm];exact decide_eq_true (.inl d))
        · refine Ev.congr (fun k=>if_neg (by omega)) ?_
          by_cases d0:p=0
          · refine Ev.congr (fun k=>if_pos (by omega)) ?_
            refine j2 _ ?_
            rw[zbh,L_S,Bool.eq_iff_iff]
            simp[d0]
            intro h
            subst d0
            exact absurd h d
          · refine Ev.congr (fun k=>if_neg (by omega)) ?_
            exact j2 false (by rw[eq_comm];refine decide_eq_false ?_;rintro(h|h);exact d h;exact d0 h.1)
      by_cases c4:((64-4*p:Nat):Int)=64
      · have M:p=0:=by omega
        refine Ev.congr (fun k=>if_pos c4) ?_
        exact hlow _ (by subst M;simp;omega)
      · refine Ev.congr (fun k=>if_neg c4) ?_
        exact hlow _ (zfn part (4*p) (by omega))
theorem bitLen_le: ∀(f x:Nat),Lib.bitLenAux f x≤f
  |0,_=>Nat.le_refl _
  |f+1,x=>by
    unfold Lib.bitLenAux
    split
    · exact Nat.zero_le _
    · have:=bitLen_le f (x / 2);omega
theorem zi7(b s v:Int)(dot:Bool){m:Nat}(hm:m<18446744073709551616){e:Int}(h: -1200≤e∧e≤1200){prec:Int}(hq: -1≤prec∧prec≤1000):
    Ev (fun k=>zae.f k b s (m:Int) e prec dot v) (S (hexL m e prec dot (v==88))):=by
  unfold zae.f hexL
  by_cases c:m=0
  · rw[if_pos c]
    refine Ev.congr (fun k=>if_neg (by omega)) ?_
    exact zei (lead:=[48]) (part:=0) b s (m:Int) e v dot (.inl rfl) (by decide) (by decide) hq
  · rw[if_neg c]
    refine Ev.congr (fun k=>if_pos (by omega)) ?_
    have hb:=bitLen_le 64 m
    have hL:bits_Len64.f (m:Int)=some (Lib.bitLen m:Int):=by
      unfold bits_Len64.f
      rw[if_pos ⟨by omega,by omega⟩,Int.toNat_natCast]
    rw[hL]
    simp only[Option.bind_some]
    change Lib.bitLen m≤64 at hb
    generalize Lib.bitLen m=n at*
    rw[w64 (x:=64-(n:Int)) (by omega) (by omega)]
    refine Ev.congr (fun k=>if_pos (by omega)) ?_
    rw[show(64-(n:Int))=((64-n:Nat):Int) by omega,zfn m (64-n) (by omega),w64 (x:=e+(n:Int)) (by omega) (by omega),w64 (by omega) (by omega)]
    have w:IntKind.u64.wrap (((m*2^(64-n)%18446744073709551616:Nat):Int)*2)=((m*2^(64-n)%18446744073709551616*2%18446744073709551616:Nat):Int):=by
      rw[IntKind.wrap_u64]
      generalize m*2^(64-n)=y
      omega
    rw[w]
    exact zei (lead:=[49]) b s (m:Int) e v dot (.inr rfl) (by omega) (by omega) hq
end Go.Proofs.YtecpgdfnamkfdaaGreatDoor.Pure
end
section
namespace Go.Proofs.YtecpgdfnamkfdaaGreatDoor.Pure
open Go.RowKit Go.Proofs.YtecpgdfnamkfdaaGreatDoorW.PrintWords Go.Proofs.YtecpgdfnamkfdaaGreatDoor.Fn
set_option linter.unusedVariables false
set_option linter.unusedSimpArgs false
theorem zdu(wide:Bool)(p:Nat)(v:List UInt8×Int)(d n:Nat):shortGo wide p v (d+1) n=(bestD wide p v n).getD (shortGo wide p v d (n+1)):=by
  conv=>lhs;unfold shortGo
  cases bestD wide p v n<;>rfl
theorem zir: ∃p,p+1=4591870180066957722∧p<9218868437227405312∧fW 52 p*20≤2^1075∧2^1075<fW 52 (p+1)*20∧(fW 52 p+fW 52 (p+1))*10<2^1075:=⟨4591870180066957721,by decide+kernel⟩
theorem zis(wide:Bool):dX wide 1 (-1)*10=CC*2^uu wide:=by
  have hv:=zeh
  obtain⟨u,hu⟩: ∃u,vv=u+1:=⟨vv-1,by omega⟩
  unfold dX CC
  rw[hu,show(-1+((u+1:Nat):Int)).toNat=u by omega,Nat.pow_succ,Nat.one_mul]
  rw[Nat.mul_assoc,Nat.mul_comm (2^uu wide),←Nat.mul_assoc]
theorem zew{a X C L:Nat}(hX:X*10=C*L)(hC:0<C):(a*(2*C)≤X↔a*20≤L)∧(X<a*(2*C)↔L<a*20)∧(a*C<X↔a*10<L):=by
  have e1:a*(2*C)*10=C*(a*20):=by
    rw[show(20:Nat)=2*10 from rfl]
    simp only[Nat.mul_assoc,Nat.mul_comm,Nat.mul_left_comm]
  have e2:a*C*10=C*(a*10):=by simp only[Nat.mul_assoc,Nat.mul_comm,Nat.mul_left_comm]
  refine⟨?_,?_,?_⟩
  · rw[←Nat.mul_le_mul_right_iff (show 0<10 by decide),e1,hX,Nat.mul_le_mul_left_iff hC]
  · rw[←Nat.mul_lt_mul_right (show 0<10 by decide),e1,hX,Nat.mul_lt_mul_left hC]
  · rw[←Nat.mul_lt_mul_right (show 0<10 by decide),e2,hX,Nat.mul_lt_mul_left hC]
theorem zgc:rdX true (dX true 1 (-1))=4591870180066957722:=by
  obtain⟨p,hp,hi,w1,w2,w3⟩:=zir
  have hX:=zis true
  have hu:uu true=1075:=rfl
  have hf:ff true=52:=rfl
  have hii:ii true=9218868437227405312:=rfl
  obtain⟨L,hL⟩: ∃L,2^1075=L:=⟨_,rfl⟩
  rw[hu,hL] at hX
  rw[hL] at w1 w2 w3
  have hfl:fFloor (ff true) (ii true) (dX true 1 (-1)) (2*CC) p:=by
    rw[hf,hii]
    exact⟨Nat.le_of_lt hi,(zew hX zds).1.2 w1,fun _=>(zew hX zds).2.1.2 w2⟩
  rw[zhQ true hfl,if_neg (by omega),hf,if_pos (.inl ((zew hX zds).2.2.2 w3))]
  exact hp
def tenthL:List UInt8:=[49,48,48,48,48,48,48,48,48,48,48,48,48,48,48,48,48,53,53,53,49,49,49,53,49,50,51,49,50,53,55,56,50,55,48,50,49,49,56,49,53,56,51,52,48,52,53,52,49,48,49,53,54,50,53]
theorem zit:exV true 4591870180066957722=(tenthL,0):=by decide+kernel
theorem zfy:shortD true 4591870180066957722=([49],0):=by
  unfold shortD
  rw[zit]
  have hl:tenthL.length=54+1:=by decide
  show shortGo true _ (tenthL,0) tenthL.length 1=_
  have hn:nearU (tenthL,0) 1=1:=by decide+kernel
  have hE:cE (tenthL,0) 1= -1:=by unfold cE;rfl
  have hb:bestD true 4591870180066957722 (tenthL,0) 1=some ([49],0):=by
    unfold bestD
    rw[if_neg (by rw[hl];decide),hn,hE,if_pos (show isP true 4591870180066957722 1 (-1) from zgc)]
    rfl
  rw[hl,zdu,hb]
  rfl
theorem wf_u64{a:Int}(h:(Lit.int .u64 a).wf=true): ∃n:Nat,a=n∧n<18446744073709551616:=by
  have h2:0≤a∧a<18446744073709551616:=by
    simp[Lit.wf,IntKind.min,IntKind.max,IntKind.bits,IntKind.signed] at h
    omega
  exact⟨a.toNat,by omega,by omega⟩
theorem zd0(wide:Bool){p:Nat}(hp:p<ii wide):bareN wide p=p:=by
  have:=(zdc wide).2.1
  exact Nat.mod_eq_of_lt (by omega)
theorem ziu(wide:Bool)(p:Nat)(v:List UInt8×Int): ∀d n,v.1.length≤n+d→ ∃N,n≤N∧bestD wide p v N=some (shortGo wide p v d n)∧ ∀j,n≤j→j<N→bestD wide p v j=none:=by
  intro d
  induction d with
  |zero=>
    intro n h
    exact⟨n,Nat.le_refl _,zdZ wide p v h,fun j h1 h2=>absurd h1 (Nat.not_le.2 h2)⟩
  |succ d ih=>
    intro n h
    rw[zdu]
    cases hb:bestD wide p v n with
    |some r=>exact⟨n,Nat.le_refl _,hb,fun j h1 h2=>absurd h1 (Nat.not_le.2 h2)⟩
    |none=>
      obtain⟨N,h1,h2,h3⟩:=ih (n+1) (by omega)
      refine⟨N,by omega,h2,fun j h4 h5=>?_⟩
      by_cases c:j=n
      · rw[c];exact hb
      · exact h3 j (by omega) h5
theorem zgd(wide:Bool)(p:Nat): ∃N,1≤N∧bestD wide p (exV wide p) N=some (shortD wide p)∧ ∀j,1≤j→j<N→bestD wide p (exV wide p) j=none:=
  ziu wide p (exV wide p) (exV wide p).1.length 1 (Nat.le_add_left _ _)
theorem zgU{wide:Bool}{p:Nat}{v d:List UInt8×Int}{n:Nat}(h:bestD wide p v n=some d):(v.1.length≤n∧d=v)∨(n<v.1.length∧ ∃u,(u=cU v n∨u=cU v n+1)∧d=decOf u (cE v n)∧isP wide p u (cE v n)):=by
  unfold bestD at h
  by_cases c1:v.1.length≤n
  · rw[if_pos c1] at h
    exact .inl ⟨c1,(Option.some.inj h).symm⟩
  · rw[if_neg c1] at h
    refine .inr ⟨Nat.lt_of_not_le c1,?_⟩
    by_cases c2:isP wide p (nearU v n) (cE v n)
    · rw[if_pos c2] at h
      exact⟨_,zeR v n,(Option.some.inj h).symm,c2⟩
    · rw[if_neg c2] at h
      by_cases c3:isP wide p (cU v n) (cE v n)
      · rw[if_pos c3] at h
        exact⟨_,.inl rfl,(Option.some.inj h).symm,c3⟩
      · rw[if_neg c3] at h
        by_cases c4:isP wide p (cU v n+1) (cE v n)
        · rw[if_pos c4] at h
          exact⟨_,.inr rfl,(Option.some.inj h).symm,c4⟩
        · rw[if_neg c4] at h
          cases h
end Go.Proofs.YtecpgdfnamkfdaaGreatDoor.Pure
end
section
namespace Go.Proofs.YtecpgdfnamkfdaaGreatDoor.Fn
open Go.RowKit Go.Proofs.YtecpgdfnamkfdaaGreatDoorW.PrintWords Go.Proofs.YtecpgdfnamkfdaaGreatDoorW.PrintLast Go.Proofs.YtecpgdfnamkfdaaGreatDoorW.PrintMore
attribute [local go_sem] fnW_0 fnW_1 fnW_2 fnW_3 fnW_4 fnW_5 fnW_guard fnW_eql zaF zaG zaK zaL
set_option linter.unusedVariables false
set_option linter.unusedSimpArgs false
mutual
def zaf.j0:Nat→Int→Int→Bool→Int→Int→Int→Int→Bool→Bool→Bool→Bool→Bool→Bool→Int→Int→Int→Option (ByteArray×Bool)
 |0,_,_,_,_,_,_,_,_,_,_,_,_,_,_,_,_=>none
 |k+1,x0,x1,x8,x9,U,O,X,Y,A,B,D,E,I,J,K,M=>if Y=true then(some ((⟨#[]⟩:ByteArray),false)) else(if x8=true then(zaf.j1 k x0 x1 x9 U O X (⟨#[]⟩:ByteArray) (O !=2) A B D E I J K M) else(zaf.j1 k x0 x1 x9 U O X (⟨#[]⟩:ByteArray) false A B D E I J K M))
def zaf.j2:Nat→Int→Int→Int→Int→Int→Int→ByteArray→Bool→Bool→Bool→Bool→Bool→Int→Int→Int→Option (ByteArray×Bool)
 |0,_,_,_,_,_,_,_,_,_,_,_,_,_,_,_=>none
 |k+1,x0,x1,x9,U,Y,X,O,E,I,D,J,M,K,B,A=>if Y=2 then(zaf.j3 k O (⟨#[78,97,78]⟩:ByteArray) E I D J false K B A) else(if Y=1 then(zaf.j3 k O (⟨#[73,110,102]⟩:ByteArray) E I D J false K B A) else(if D=true then(if X=1 then((zam.f k x0 x1 x9 U (mx (-1) (mn B 1000)) (A !=118) A).bind fun Z=>(zaf.j3 k O Z E I D J M K B A)) else(if X=2 then((zal.f k x0 x1 x9 U (mx (-1) (mn B 1000)) (A !=118) A).bind fun aa=>(zaf.j3 k O aa E I D J M K B A)) else(if X=3 then((zai.f k x0 x1 x9 U (mx (-1) (mn B 1000)) (A !=118) A).bind fun ab=>(zaf.j3 k O ab E I D J M K B A)) else(if X=4 then((zaJ.f x0 x1 x9 U (mx (-1) (mn B 1000)) (A !=118) A).bind fun ac=>(zaf.j3 k O ac E I D J M K B A)) else(if X=5 then((zae.f k x0 x1 x9 U (mx (-1) (mn B 1000)) (A !=118) A).bind fun ad=>(zaf.j3 k O ad E I D J M K B A)) else(none)))))) else(if X=1 then((zam.f k x0 x1 x9 U (mx (-1) (mn B 1000)) false A).bind fun ae=>(zaf.j3 k O ae E I D J M K B A)) else(if X=2 then((zal.f k x0 x1 x9 U (mx (-1) (mn B 1000)) false A).bind fun af=>(zaf.j3 k O af E I D J M K B A)) else(if X=3 then((zai.f k x0 x1 x9 U (mx (-1) (mn B 1000)) false A).bind fun ag=>(zaf.j3 k O ag E I D J M K B A)) else(if X=4 then((zaJ.f x0 x1 x9 U (mx (-1) (mn B 1000)) false A).bind fun ah=>(zaf.j3 k O ah E I D J M K B A)) else(if X=5 then((zae.f k x0 x1 x9 U (mx (-1) (mn B 1000)) false A).bind fun ai=>(zaf.j3 k O ai E I D J M K B A)) else(none))))))))
def zaf.j3:Nat→ByteArray→ByteArray→Bool→Bool→Bool→Bool→Bool→Int→Int→Int→Option (ByteArray×Bool)
 |0,_,_,_,_,_,_,_,_,_,_=>none
 |k+1,O,U,D,A,E,I,B,J,K,M=>if B=true then(zaf.j4 k O U (!A) D A E I B J K M) else(zaf.j4 k O U false D A E I B J K M)
def zaf.j4:Nat→ByteArray→ByteArray→Bool→Bool→Bool→Bool→Bool→Bool→Int→Int→Int→Option (ByteArray×Bool)
 |0,_,_,_,_,_,_,_,_,_,_,_=>none
 |k+1,O,M,aa,B,D,E,I,X,A,J,K=>if aa=true then((zbo.f 48 (wrap64 ((wrap64 ((mx 0 (mn A 1000))-(O.size:Int)))-(M.size:Int)))).bind fun U=>(if U.size+M.size≤9223372036854775807 then(if O.size+(U++M).size≤9223372036854775807 then((zbp.f (O++(U++M)) B D E I false A J K).bind fun Y=>(some (Y,true))) else(none)) else(none))) else(if O.size+M.size≤9223372036854775807 then((zbp.f (O++M) B D E I false A J K).bind fun Z=>(some (Z,true))) else(none))
def zaf.j1:Nat→Int→Int→Int→Int→Int→Int→ByteArray→Bool→Bool→Bool→Bool→Bool→Bool→Int→Int→Int→Option (ByteArray×Bool)
 |0,_,_,_,_,_,_,_,_,_,_,_,_,_,_,_,_=>none
 |k+1,x0,x1,x9,U,O,X,Y,Z,A,D,E,B,I,J,K,M=>if Z=true then(zaf.j2 k x0 x1 x9 U O X (⟨#[45]⟩:ByteArray) A D E B I J K M) else(if A=true then(zaf.j2 k x0 x1 x9 U O X (⟨#[43]⟩:ByteArray) A D E B I J K M) else(if B=true then(zaf.j2 k x0 x1 x9 U O X (⟨#[32]⟩:ByteArray) A D E B I J K M) else(if O=1 then(zaf.j2 k x0 x1 x9 U O X (⟨#[43]⟩:ByteArray) A D E B I J K M) else(zaf.j2 k x0 x1 x9 U O X Y A D E B I J K M))))
end
def zaf.f(k:Nat)(a0:Int)(a1:Int)(E:Bool)(I:Bool)(J:Bool)(K:Bool)(M:Bool)(O:Int)(U:Int)(B:Int):Option (ByteArray×Bool):=(zbj.f a0 a1).bind fun A=>((zaz.f k B).bind fun D=>(if A.2.2.2=3 then(zaf.j0 k a0 a1 A.1 A.2.1 A.2.2.1 A.2.2.2 D true E I J K M O U B) else(zaf.j0 k a0 a1 A.1 A.2.1 A.2.2.1 A.2.2.2 D (D==0) E I J K M O U B)))
set_option maxHeartbeats 8000000 in
set_option maxRecDepth 100000 in
theorem zaf.calls(k:Nat)(a0:Int)(a1:Int)(J:Bool)(K:Bool)(ae:Bool)(M:Bool)(O:Bool)(E:Int)(I:Int)(A:Int)(r1:ByteArray)(r2:Bool)(w:World)(h:zaf.f k a0 a1 J K ae M O E I A=some (r1,r2)):
  Calls Tryz.prog 25 #[.int .u64 a0,.int .i64 a1,.agg #[.bool J,.bool K,.bool ae,.bool M,.bool O,.int .i64 E,.int .i64 I,.int .i32 A]] w fun e w'=>e= .returned (.tuple #[.string r1,.bool r2])∧Below w.heap.size w w':=by
 have l9:=Tryz.underlying26
 have ma:=Tryz.underlying74
 have HB:=zaa.mk (Below.refl w.heap.size w)
 have H:((zbj.f a0 a1).bind fun am=>((zaz.f k A).bind fun ah=>(if am.2.2.2=3 then(zaf.j0 k a0 a1 am.1 am.2.1 am.2.2.1 am.2.2.2 ah true J K ae M O E I A) else(zaf.j0 k a0 a1 am.1 am.2.1 am.2.2.1 am.2.2.2 ah (ah==0) J K ae M O E I A))))=some (r1,r2):=h
 clear h
 replace H:=bs H
 obtain⟨⟨bf,ab,ac,ar⟩,A4,H⟩:=H
 dsimp only at H
 replace H:=bs H
 obtain⟨ah,A5,H⟩:=H
 have bQ:=zaa.mk H
 clear H
 go_enter Tryz.func25,Tryz.ntmps25
 go_upto_region 3 with(first|((with_reducible refine zah (N:=5) rfl ?_);refine zag rfl (N:=5) rfl (cs:=#[.bool J,.bool K,.bool ae,.bool M,.bool O,.int .i64 E,.int .i64 I,.int .i32 A]) (t:=26) gz ?_;intro D hg w7 hbox hb;have lh:=gN bz hg;have B:=zaa.mk hbox;replace HB:=bN bz hb;clear hb hbox hg)|((with_reducible refine zac (f:=24) rfl ?_);refine gB Tryz.func24 (zbj.calls a0 a1 bf ab ac ar _ A4.out) ?_;intro w8 hb;replace B:=kN (g:=D) (cs:=#[.bool J,.bool K,.bool ae,.bool M,.bool O,.int .i64 E,.int .i64 I,.int .i32 A]) hb bk;replace HB:=bN bz hb;(try clear hb);(try clear aN);(try clear hk);(try clear hi);obtain⟨au,av,aw,ax,ay,az,aA,aB,aC,aD,aE,aF,aG,aH,aI,aJ⟩:=cz8 (W:=w8) B)|((with_reducible refine zac (f:=44) rfl ?_);refine zbK (some 26) rfl rfl Tryz.func44 (by kernel_rfl) rfl #[.int .i32 A] rfl lz ?_;(with_reducible refine(zaz.calls k A ah _ A5.out).mono ?_);rintro e w' ⟨rfl,⟨nd,rfl⟩⟩;refine⟨_,rfl,?_⟩))
 (try simp only[Act.put,List.setIfInBounds_toArray,List.set_cons_zero,List.set_cons_succ])
 go_cut [32] (fun li wc=> ∃(kq:Nat) (aQ:Bool),li= .bool aQ∧zaa (zaf.j0 kq a0 a1 bf ab ac ar ah aQ J K ae M O E I A=some (r1,r2))∧zaa (kq≤k)∧zaa (wc.heap[D]? =some (.cells #[.bool J,.bool K,.bool ae,.bool M,.bool O,.int .i64 E,.int .i64 I,.int .i32 A] 26 (0,0)))∧zaa (Below w.heap.size w wc))
 case first=>
  have H:=bQ.out
  clear bQ
  by_cases bg:ar=3
  ·replace H:=hE H bg
   obtain⟨a2,a3⟩:=eT bg
   clear bg
   try first|rw[a2]|rw[a3]
   have H':=zaa.mk H
   clear H
   go_wp2
   go_meet
   case rel=>exact⟨_,(true),rz,H',⟨by first|omega|exact Nat.le_refl _⟩,⟨bk⟩,⟨bz⟩⟩
  replace H:=hN H bg
  obtain⟨a2,a3⟩:=eF bg
  try first|rw[a2]|rw[a3]
  have H':=zaa.mk H
  clear H
  go_wp2
  go_meet
  case rel=>exact⟨_,((ah==0)),rz,H',⟨by first|omega|exact Nat.le_refl _⟩,⟨bk⟩,⟨bz⟩⟩
 case rest=>
  clear bQ
  try clear au av aw ax ay az aA aB aC aD aE aF aG aH aI aJ
  obtain⟨kq,aQ,rfl,HA,al,B,HB⟩:=hcut
  cases kq with
  |zero=>exact absurd HA.out (by simp[zaf.j0])
  |succ ds=>
   have H:=HA.out
   clear HA
   simp only[zaf.j0] at H
   by_cases aW:aQ=true
   ·subst aW
    replace H:=hT H
    simp only[Option.some.injEq,Prod.mk.injEq] at H
    obtain⟨rfl,rfl⟩:=H
    go_wp2
    go_ret2
    exact⟨ez,bz⟩
   replace aW:=Bool.eq_false_iff.mpr aW
   subst aW
   replace H:=hF H
   have bh:=zaa.mk H
   clear H
   go_upto_block 0 with(fail)
   go_cut [13] (fun lj wc=> ∃(kq:Nat) (U:ByteArray),lj= .string U∧zaa (zaf.j2 kq a0 a1 ab ac ar ah U J K ae M O E I A=some (r1,r2))∧zaa (kq≤ds)∧zaa (wc.heap[D]? =some (.cells #[.bool J,.bool K,.bool ae,.bool M,.bool O,.int .i64 E,.int .i64 I,.int .i32 A] 26 (0,0)))∧zaa (Below w.heap.size w wc))
   case first=>
    have H:=bh.out
    clear bh
    have bi:=zaa.mk H
    clear H
    go_upto_region 6 with(fail)
    go_cut [33] (fun lk wc=> ∃(kq:Nat) (aO:Bool),lk= .bool aO∧zaa (zaf.j1 kq a0 a1 ab ac ar ah (⟨#[]⟩:ByteArray) aO J K ae M O E I A=some (r1,r2))∧zaa (kq≤ds)∧zaa (wc.heap[D]? =some (.cells #[.bool J,.bool K,.bool ae,.bool M,.bool O,.int .i64 E,.int .i64 I,.int .i32 A] 26 (0,0)))∧zaa (Below w.heap.size w wc))
    case first=>
     have H:=bi.out
     clear bi
     by_cases br:bf=true
     ·subst br
      replace H:=hT H
      have H':=zaa.mk H
      clear H
      go_wp2
      go_meet
      case rel=>exact⟨_,((ar !=2)),rz,H',⟨by have:=al.out;first|omega|exact Nat.le_refl _⟩,⟨bk⟩,⟨bz⟩⟩
     replace br:=Bool.eq_false_iff.mpr br
     subst br
     replace H:=hF H
     have H':=zaa.mk H
     clear H
     go_wp2
     go_meet
     case rel=>exact⟨_,(false),rz,H',⟨by have:=al.out;first|omega|exact Nat.le_refl _⟩,⟨bk⟩,⟨bz⟩⟩
    case rest=>
     clear bi
     try clear aW
     try clear au av aw ax ay az aA aB aC aD aE aF aG aH aI aJ
     obtain⟨kq,aO,rfl,HA,aX,B,HB⟩:=hcut
     cases kq with
     |zero=>exact absurd HA.out (by simp[zaf.j1])
     |succ mb=>
      have H:=HA.out
      clear HA
      simp only[zaf.j1] at H
      by_cases bu:aO=true
      ·subst bu
       replace H:=hT H
       have H':=zaa.mk H
       clear H
       go_wp2
       go_meet
       case rel=>exact⟨_,((⟨#[45]⟩:ByteArray)),rz,H',⟨by have:=al.out;have:=aX.out;first|omega|exact Nat.le_refl _⟩,⟨bk⟩,⟨bz⟩⟩
      replace bu:=Bool.eq_false_iff.mpr bu
      subst bu
      replace H:=hF H
      by_cases bv:J=true
      ·subst bv
       replace H:=hT H
       have H':=zaa.mk H
       clear H
       obtain⟨dt,du,dv,dw,dx,dy,dA,dB,dC,dD,dE,dF,dG,dH,dI,dJ⟩:=cz8 (W:=wc) B
       go_wp2
       go_meet
       case rel=>exact⟨_,((⟨#[43]⟩:ByteArray)),rz,H',⟨by have:=al.out;have:=aX.out;first|omega|exact Nat.le_refl _⟩,⟨bk⟩,⟨bz⟩⟩
      replace bv:=Bool.eq_false_iff.mpr bv
      subst bv
      replace H:=hF H
      by_cases bw:M=true
      ·subst bw
       replace H:=hT H
       have H':=zaa.mk H
       clear H
       obtain⟨dK,dL,dM,dN,dO,dP,dQ,dR,dS,dT,dU,dV,dW,dY,dZ,d0⟩:=cz8 (W:=wc) B
       go_wp2
       go_meet
       case rel=>exact⟨_,((⟨#[32]⟩:ByteArray)),rz,H',⟨by have:=al.out;have:=aX.out;first|omega|exact Nat.le_refl _⟩,⟨bk⟩,⟨bz⟩⟩
      replace bw:=Bool.eq_false_iff.mpr bw
      subst bw
      replace H:=hF H
      by_cases bj:ar=1
      ·replace H:=hE H bj
       obtain⟨bR,bS⟩:=eT bj
       clear bj
       have H':=zaa.mk H
       clear H
       obtain⟨d5,d6,d9,ea,eb,ec,ed,ee,ef,eg,eh,ei,ej,ek,em,en⟩:=cz8 (W:=wc) B
       go_wp2
       go_meet
       case rel=>exact⟨_,((⟨#[43]⟩:ByteArray)),rz,H',⟨by have:=al.out;have:=aX.out;first|omega|exact Nat.le_refl _⟩,⟨bk⟩,⟨bz⟩⟩
      replace H:=hN H bj
      obtain⟨bR,bS⟩:=eF bj
      have H':=zaa.mk H
      clear H
      obtain⟨eo,ep,eq,er,et,eu,ev,ew,ey,eA,eB,eC,eD,eE,eG,eH⟩:=cz8 (W:=wc) B
      go_wp2
      go_meet
      case rel=>exact⟨_,((⟨#[]⟩:ByteArray)),rz,H',⟨by have:=al.out;have:=aX.out;first|omega|exact Nat.le_refl _⟩,⟨bk⟩,⟨bz⟩⟩
   case rest=>
    clear bh
    try clear aW
    try clear au av aw ax ay az aA aB aC aD aE aF aG aH aI aJ
    obtain⟨kq,U,rfl,HA,ak,B,HB⟩:=hcut
    cases kq with
    |zero=>exact absurd HA.out (by simp[zaf.j2])
    |succ aK=>
     have H:=HA.out
     clear HA
     simp only[zaf.j2] at H
     have bl:=zaa.mk H
     clear H
     go_upto_block 1 with(fail)
     go_cut [14] (fun lm wc=> ∃(kq:Nat) (ag:ByteArray) (ad:Bool),lm= .string ag∧zaa (zaf.j3 kq U ag J K ae M ad E I A=some (r1,r2))∧zaa (kq≤aK)∧zaa (wc.heap[D]? =some (.cells #[.bool J,.bool K,.bool ae,.bool M,.bool ad,.int .i64 E,.int .i64 I,.int .i32 A] 26 (0,0)))∧zaa (Below w.heap.size w wc))
     case first=>
      have H:=bl.out
      clear bl
      by_cases bm:ar=2
      ·replace H:=hE H bm
       obtain⟨a4,a5⟩:=eT bm
       clear bm
       try first|rw[a4]|rw[a5]
       have H':=zaa.mk H
       clear H
       obtain⟨eI,eJ,eK,eL,eM,eN,eO,eP,eQ,eR,eS,eU,eV,eW,eX,eY⟩:=cz8 (W:=wc) B
       go_wp2
       go_meet
       case rel=>exact⟨_,((⟨#[78,97,78]⟩:ByteArray)),(false),rz,H',⟨by have:=al.out;have:=ak.out;first|omega|exact Nat.le_refl _⟩,⟨bk⟩,⟨bz⟩⟩
      replace H:=hN H bm
      obtain⟨a4,a5⟩:=eF bm
      try first|rw[a4]|rw[a5]
      by_cases bn:ar=1
      ·replace H:=hE H bn
       obtain⟨bU,bV⟩:=eT bn
       clear bn
       have H':=zaa.mk H
       clear H
       obtain⟨eZ,e0,e1,e2,e3,e4,e5,e6,e7,e8,e9,fa,fb,fc,fe,fg⟩:=cz8 (W:=wc) B
       go_wp2
       go_meet
       case rel=>exact⟨_,((⟨#[73,110,102]⟩:ByteArray)),(false),rz,H',⟨by have:=al.out;have:=ak.out;first|omega|exact Nat.le_refl _⟩,⟨bk⟩,⟨bz⟩⟩
      replace H:=hN H bn
      obtain⟨bU,bV⟩:=eF bn
      obtain⟨a9,a6⟩:=ex (mn I 1000)
      (first|rw[a6] at H|simp only[a6] at H)
      have k3:(if 1000<I then 1000 else I)=a9:=a6
      obtain⟨af,a7⟩:=ex (mx (-1) (a9))
      (first|rw[a7] at H|simp only[a7] at H)
      have k4:(if(-1)<(a9) then(a9) else(-1))=af:=a7
      by_cases bA:ae=true
      ·subst bA
       replace H:=hT H
       by_cases fh:ah=1
       ·subst fh
        replace H:=hE H rfl
        (try simp only[fnW_1])
        replace H:=bs H
        obtain⟨bB,ln,H⟩:=H
        have H':=zaa.mk H
        clear H
        obtain⟨fi,fj,fk,fl,fm,fo,fp,fq,fs,ft,fu,fv,fw,fx,fy,fz⟩:=cz8 (W:=wc) B
        go_wp2_with (first|((with_reducible refine zah (N:=15) rfl ?_);refine zag rfl (N:=15) rfl (cs:=#[.int .u64 0,.int .i64 0,.int .u64 0,.int .i64 0,.int .i64 0,.bool false,.int .i32 0]) (t:=74) gz ?_;intro an hg lo hbox hb;have aR:=gN bz hg;have aS:=gN bz hg;have X:=lN (g:=D) (cs:=#[.bool J,.bool K,.bool true,.bool M,.bool O,.int .i64 E,.int .i64 I,.int .i32 A]) hg bk;have Y:=rN (g:=D) (cs:=#[.bool J,.bool K,.bool true,.bool M,.bool O,.int .i64 E,.int .i64 I,.int .i32 A]) hg bk;replace B:=kN (g:=D) (cs:=#[.bool J,.bool K,.bool true,.bool M,.bool O,.int .i64 E,.int .i64 I,.int .i32 A]) hb bk;have ai:=zaa.mk hbox;replace HB:=bN bz hb;clear hb hbox hg;have lp:=Y.out;have lq:=X.out;obtain⟨fA,fC,fD,fF,fG,fH,fI,fJ,fK,fL,fN,fO,fP,fQ⟩:=cz7 (W:=lo) ai)|(go_at_call 66;(with_reducible refine(zam.calls aK a0 a1 ab ac af (A !=118) A bB _ ln.out).mono ?_);rintro e mf ⟨rfl,hb⟩;replace B:=kN (g:=D) (cs:=#[.bool J,.bool K,.bool true,.bool M,.bool O,.int .i64 E,.int .i64 I,.int .i32 A]) hb bk;replace ai:=kN (g:=an) (cs:=#[.int .u64 a0,.int .i64 a1,.int .u64 ab,.int .i64 ac,.int .i64 af,.bool (A !=118),.int .i32 A]) hb bk;replace HB:=bN bz hb;(try clear hb);(try clear aN);(try clear hk);(try clear hi)))
        go_meet
        case rel=>exact⟨_,(bB),(O),rz,H',⟨by have:=al.out;have:=ak.out;first|omega|exact Nat.le_refl _⟩,⟨bk⟩,⟨bz⟩⟩
       replace H:=hN H fh
       by_cases fR:ah=2
       ·subst fR
        replace H:=hE H rfl
        (try simp only[fnW_2])
        replace H:=bs H
        obtain⟨bC,lr,H⟩:=H
        have H':=zaa.mk H
        clear H
        obtain⟨fS,fT,fU,fV,fX,fY,fZ,f0,f2,f3,f4,f5,f6,f7,f8,f9⟩:=cz8 (W:=wc) B
        go_wp2_with (first|((with_reducible refine zah (N:=15) rfl ?_);refine zag rfl (N:=15) rfl (cs:=#[.int .u64 0,.int .i64 0,.int .u64 0,.int .i64 0,.int .i64 0,.bool false,.int .i32 0]) (t:=74) gz ?_;intro an hg lu hbox hb;have aR:=gN bz hg;have aS:=gN bz hg;have X:=lN (g:=D) (cs:=#[.bool J,.bool K,.bool true,.bool M,.bool O,.int .i64 E,.int .i64 I,.int .i32 A]) hg bk;have Y:=rN (g:=D) (cs:=#[.bool J,.bool K,.bool true,.bool M,.bool O,.int .i64 E,.int .i64 I,.int .i32 A]) hg bk;replace B:=kN (g:=D) (cs:=#[.bool J,.bool K,.bool true,.bool M,.bool O,.int .i64 E,.int .i64 I,.int .i32 A]) hb bk;have ai:=zaa.mk hbox;replace HB:=bN bz hb;clear hb hbox hg;have lw:=Y.out;have lx:=X.out;obtain⟨ga,gb,ge,gf,gg,gh,gi,gj,gk,gl,gm,gn,gp,gq⟩:=cz7 (W:=lu) ai)|(go_at_call 67;(with_reducible refine(zal.calls aK a0 a1 ab ac af (A !=118) A bC _ lr.out).mono ?_);rintro e mg ⟨rfl,hb⟩;replace B:=kN (g:=D) (cs:=#[.bool J,.bool K,.bool true,.bool M,.bool O,.int .i64 E,.int .i64 I,.int .i32 A]) hb bk;replace ai:=kN (g:=an) (cs:=#[.int .u64 a0,.int .i64 a1,.int .u64 ab,.int .i64 ac,.int .i64 af,.bool (A !=118),.int .i32 A]) hb bk;replace HB:=bN bz hb;(try clear hb);(try clear aN);(try clear hk);(try clear hi)))
        go_meet
        case rel=>exact⟨_,(bC),(O),rz,H',⟨by have:=al.out;have:=ak.out;first|omega|exact Nat.le_refl _⟩,⟨bk⟩,⟨bz⟩⟩
       replace H:=hN H fR
       by_cases gr:ah=3
       ·subst gr
        replace H:=hE H rfl
        (try simp only[fnW_3])
        replace H:=bs H
        obtain⟨bD,ly,H⟩:=H
        have H':=zaa.mk H
        clear H
        obtain⟨gs,gt,gu,gv,gw,gx,gy,gA,gC,gD,gE,gF,gH,gI,gJ,gK⟩:=cz8 (W:=wc) B
        go_wp2_with (first|((with_reducible refine zah (N:=15) rfl ?_);refine zag rfl (N:=15) rfl (cs:=#[.int .u64 0,.int .i64 0,.int .u64 0,.int .i64 0,.int .i64 0,.bool false,.int .i32 0]) (t:=74) gz ?_;intro an hg lA hbox hb;have aR:=gN bz hg;have aS:=gN bz hg;have X:=lN (g:=D) (cs:=#[.bool J,.bool K,.bool true,.bool M,.bool O,.int .i64 E,.int .i64 I,.int .i32 A]) hg bk;have Y:=rN (g:=D) (cs:=#[.bool J,.bool K,.bool true,.bool M,.bool O,.int .i64 E,.int .i64 I,.int .i32 A]) hg bk;replace B:=kN (g:=D) (cs:=#[.bool J,.bool K,.bool true,.bool M,.bool O,.int .i64 E,.int .i64 I,.int .i32 A]) hb bk;have ai:=zaa.mk hbox;replace HB:=bN bz hb;clear hb hbox hg;have lB:=Y.out;have lC:=X.out;obtain⟨gL,gM,gO,gP,gQ,gR,gS,gT,gU,gV,gW,gX,gY,gZ⟩:=cz7 (W:=lA) ai)|(go_at_call 68;(with_reducible refine(zai.calls aK a0 a1 ab ac af (A !=118) A bD _ ly.out).mono ?_);rintro e mh ⟨rfl,hb⟩;replace B:=kN (g:=D) (cs:=#[.bool J,.bool K,.bool true,.bool M,.bool O,.int .i64 E,.int .i64 I,.int .i32 A]) hb bk;replace ai:=kN (g:=an) (cs:=#[.int .u64 a0,.int .i64 a1,.int .u64 ab,.int .i64 ac,.int .i64 af,.bool (A !=118),.int .i32 A]) hb bk;replace HB:=bN bz hb;(try clear hb);(try clear aN);(try clear hk);(try clear hi)))
        go_meet
        case rel=>exact⟨_,(bD),(O),rz,H',⟨by have:=al.out;have:=ak.out;first|omega|exact Nat.le_refl _⟩,⟨bk⟩,⟨bz⟩⟩
       replace H:=hN H gr
       by_cases g0:ah=4
       ·subst g0
        replace H:=hE H rfl
        (try simp only[fnW_4])
        replace H:=bs H
        obtain⟨bE,lD,H⟩:=H
        have H':=zaa.mk H
        clear H
        obtain⟨g1,g2,g3,g4,g5,g6,g7,g8,g9,ha,hc,he,hf,hh,hj,hl⟩:=cz8 (W:=wc) B
        go_wp2_with (first|((with_reducible refine zah (N:=15) rfl ?_);refine zag rfl (N:=15) rfl (cs:=#[.int .u64 0,.int .i64 0,.int .u64 0,.int .i64 0,.int .i64 0,.bool false,.int .i32 0]) (t:=74) gz ?_;intro an hg lE hbox hb;have aR:=gN bz hg;have aS:=gN bz hg;have X:=lN (g:=D) (cs:=#[.bool J,.bool K,.bool true,.bool M,.bool O,.int .i64 E,.int .i64 I,.int .i32 A]) hg bk;have Y:=rN (g:=D) (cs:=#[.bool J,.bool K,.bool true,.bool M,.bool O,.int .i64 E,.int .i64 I,.int .i32 A]) hg bk;replace B:=kN (g:=D) (cs:=#[.bool J,.bool K,.bool true,.bool M,.bool O,.int .i64 E,.int .i64 I,.int .i32 A]) hb bk;have ai:=zaa.mk hbox;replace HB:=bN bz hb;clear hb hbox hg;have lF:=Y.out;have lG:=X.out;obtain⟨hm,hn,ho,hp,hq,hr,hs,ht,hu,hv,hw,hx,hy,hz⟩:=cz7 (W:=lE) ai)|(go_at_call 69;(with_reducible refine(zaJ.calls a0 a1 ab ac af (A !=118) A bE _ lD.out).mono ?_);rintro e mi ⟨rfl,hb⟩;replace B:=kN (g:=D) (cs:=#[.bool J,.bool K,.bool true,.bool M,.bool O,.int .i64 E,.int .i64 I,.int .i32 A]) hb bk;replace ai:=kN (g:=an) (cs:=#[.int .u64 a0,.int .i64 a1,.int .u64 ab,.int .i64 ac,.int .i64 af,.bool (A !=118),.int .i32 A]) hb bk;replace HB:=bN bz hb;(try clear hb);(try clear aN);(try clear hk);(try clear hi)))
        go_meet
        case rel=>exact⟨_,(bE),(O),rz,H',⟨by have:=al.out;have:=ak.out;first|omega|exact Nat.le_refl _⟩,⟨bk⟩,⟨bz⟩⟩
       replace H:=hN H g0
       by_cases hA:ah=5
       ·subst hA
        replace H:=hE H rfl
        (try simp only[fnW_5])
        replace H:=bs H
        obtain⟨bG,lH,H⟩:=H
        have H':=zaa.mk H
        clear H
        obtain⟨hB,hC,hD,hH,hI,hJ,hK,hL,hM,hO,hP,hQ,hR,hS,hU,hV⟩:=cz8 (W:=wc) B
        go_wp2_with (first|((with_reducible refine zah (N:=15) rfl ?_);refine zag rfl (N:=15) rfl (cs:=#[.int .u64 0,.int .i64 0,.int .u64 0,.int .i64 0,.int .i64 0,.bool false,.int .i32 0]) (t:=74) gz ?_;intro an hg lI hbox hb;have aR:=gN bz hg;have aS:=gN bz hg;have X:=lN (g:=D) (cs:=#[.bool J,.bool K,.bool true,.bool M,.bool O,.int .i64 E,.int .i64 I,.int .i32 A]) hg bk;have Y:=rN (g:=D) (cs:=#[.bool J,.bool K,.bool true,.bool M,.bool O,.int .i64 E,.int .i64 I,.int .i32 A]) hg bk;replace B:=kN (g:=D) (cs:=#[.bool J,.bool K,.bool true,.bool M,.bool O,.int .i64 E,.int .i64 I,.int .i32 A]) hb bk;have ai:=zaa.mk hbox;replace HB:=bN bz hb;clear hb hbox hg;have lJ:=Y.out;have lK:=X.out;obtain⟨hW,hX,hY,hZ,h0,h1,h2,h3,h4,h5,h6,h7,h8,h9⟩:=cz7 (W:=lI) ai)|(go_at_call 70;(with_reducible refine(zae.calls aK a0 a1 ab ac af (A !=118) A bG _ lH.out).mono ?_);rintro e mj ⟨rfl,hb⟩;replace B:=kN (g:=D) (cs:=#[.bool J,.bool K,.bool true,.bool M,.bool O,.int .i64 E,.int .i64 I,.int .i32 A]) hb bk;replace ai:=kN (g:=an) (cs:=#[.int .u64 a0,.int .i64 a1,.int .u64 ab,.int .i64 ac,.int .i64 af,.bool (A !=118),.int .i32 A]) hb bk;replace HB:=bN bz hb;(try clear hb);(try clear aN);(try clear hk);(try clear hi)))
        go_meet
        case rel=>exact⟨_,(bG),(O),rz,H',⟨by have:=al.out;have:=ak.out;first|omega|exact Nat.le_refl _⟩,⟨bk⟩,⟨bz⟩⟩
       replace H:=hN H hA
       exact absurd H (by simp)
      replace bA:=Bool.eq_false_iff.mpr bA
      subst bA
      replace H:=hF H
      by_cases ia:ah=1
      ·subst ia
       replace H:=hE H rfl
       (try simp only[fnW_1])
       replace H:=bs H
       obtain⟨bH,lL,H⟩:=H
       have H':=zaa.mk H
       clear H
       obtain⟨ib,ic,id,ie,ig,ih,ij,ik,il,im,io,ip,iq,ir,it,iu⟩:=cz8 (W:=wc) B
       go_wp2_with (first|((with_reducible refine zah (N:=15) rfl ?_);refine zag rfl (N:=15) rfl (cs:=#[.int .u64 0,.int .i64 0,.int .u64 0,.int .i64 0,.int .i64 0,.bool false,.int .i32 0]) (t:=74) gz ?_;intro ao hg lM hbox hb;have aT:=gN bz hg;have aU:=gN bz hg;have Z:=lN (g:=D) (cs:=#[.bool J,.bool K,.bool false,.bool M,.bool O,.int .i64 E,.int .i64 I,.int .i32 A]) hg bk;have aa:=rN (g:=D) (cs:=#[.bool J,.bool K,.bool false,.bool M,.bool O,.int .i64 E,.int .i64 I,.int .i32 A]) hg bk;replace B:=kN (g:=D) (cs:=#[.bool J,.bool K,.bool false,.bool M,.bool O,.int .i64 E,.int .i64 I,.int .i32 A]) hb bk;have aj:=zaa.mk hbox;replace HB:=bN bz hb;clear hb hbox hg;have lO:=aa.out;have lP:=Z.out;obtain⟨iv,iw,ix,iy,iz,iA,iB,iC,iD,iE,iF,iG,iH,iI⟩:=cz7 (W:=lM) aj)|(go_at_call 66;(with_reducible refine(zam.calls aK a0 a1 ab ac af false A bH _ lL.out).mono ?_);rintro e ml ⟨rfl,hb⟩;replace B:=kN (g:=D) (cs:=#[.bool J,.bool K,.bool false,.bool M,.bool O,.int .i64 E,.int .i64 I,.int .i32 A]) hb bk;replace aj:=kN (g:=ao) (cs:=#[.int .u64 a0,.int .i64 a1,.int .u64 ab,.int .i64 ac,.int .i64 af,.bool false,.int .i32 A]) hb bk;replace HB:=bN bz hb;(try clear hb);(try clear aN);(try clear hk);(try clear hi)))
       go_meet
       case rel=>exact⟨_,(bH),(O),rz,H',⟨by have:=al.out;have:=ak.out;first|omega|exact Nat.le_refl _⟩,⟨bk⟩,⟨bz⟩⟩
      replace H:=hN H ia
      by_cases iJ:ah=2
      ·subst iJ
       replace H:=hE H rfl
       (try simp only[fnW_2])
       replace H:=bs H
       obtain⟨bI,lQ,H⟩:=H
       have H':=zaa.mk H
       clear H
       obtain⟨iK,iL,iM,iN,iO,iP,iQ,iR,iS,iT,iU,iV,iW,iX,iY,iZ⟩:=cz8 (W:=wc) B
       go_wp2_with (first|((with_reducible refine zah (N:=15) rfl ?_);refine zag rfl (N:=15) rfl (cs:=#[.int .u64 0,.int .i64 0,.int .u64 0,.int .i64 0,.int .i64 0,.bool false,.int .i32 0]) (t:=74) gz ?_;intro ao hg lR hbox hb;have aT:=gN bz hg;have aU:=gN bz hg;have Z:=lN (g:=D) (cs:=#[.bool J,.bool K,.bool false,.bool M,.bool O,.int .i64 E,.int .i64 I,.int .i32 A]) hg bk;have aa:=rN (g:=D) (cs:=#[.bool J,.bool K,.bool false,.bool M,.bool O,.int .i64 E,.int .i64 I,.int .i32 A]) hg bk;replace B:=kN (g:=D) (cs:=#[.bool J,.bool K,.bool false,.bool M,.bool O,.int .i64 E,.int .i64 I,.int .i32 A]) hb bk;have aj:=zaa.mk hbox;replace HB:=bN bz hb;clear hb hbox hg;have lS:=aa.out;have lT:=Z.out;obtain⟨i0,i1,i3,i4,i5,i6,i7,i9,ja,jb,jc,jd,je,jf⟩:=cz7 (W:=lR) aj)|(go_at_call 67;(with_reducible refine(zal.calls aK a0 a1 ab ac af false A bI _ lQ.out).mono ?_);rintro e mm ⟨rfl,hb⟩;replace B:=kN (g:=D) (cs:=#[.bool J,.bool K,.bool false,.bool M,.bool O,.int .i64 E,.int .i64 I,.int .i32 A]) hb bk;replace aj:=kN (g:=ao) (cs:=#[.int .u64 a0,.int .i64 a1,.int .u64 ab,.int .i64 ac,.int .i64 af,.bool false,.int .i32 A]) hb bk;replace HB:=bN bz hb;(try clear hb);(try clear aN);(try clear hk);(try clear hi)))
       go_meet
       case rel=>exact⟨_,(bI),(O),rz,H',⟨by have:=al.out;have:=ak.out;first|omega|exact Nat.le_refl _⟩,⟨bk⟩,⟨bz⟩⟩
      replace H:=hN H iJ
      by_cases jg:ah=3
      ·subst jg
       replace H:=hE H rfl
       (try simp only[fnW_3])
       replace H:=bs H
       obtain⟨bJ,lU,H⟩:=H
       have H':=zaa.mk H
       clear H
       obtain⟨jh,ji,jj,jk,jl,jm,jn,jo,jp,jq,jr,js,jt,ju,jv,jw⟩:=cz8 (W:=wc) B
       go_wp2_with (first|((with_reducible refine zah (N:=15) rfl ?_);refine zag rfl (N:=15) rfl (cs:=#[.int .u64 0,.int .i64 0,.int .u64 0,.int .i64 0,.int .i64 0,.bool false,.int .i32 0]) (t:=74) gz ?_;intro ao hg lV hbox hb;have aT:=gN bz hg;have aU:=gN bz hg;have Z:=lN (g:=D) (cs:=#[.bool J,.bool K,.bool false,.bool M,.bool O,.int .i64 E,.int .i64 I,.int .i32 A]) hg bk;have aa:=rN (g:=D) (cs:=#[.bool J,.bool K,.bool false,.bool M,.bool O,.int .i64 E,.int .i64 I,.int .i32 A]) hg bk;replace B:=kN (g:=D) (cs:=#[.bool J,.bool K,.bool false,.bool M,.bool O,.int .i64 E,.int .i64 I,.int .i32 A]) hb bk;have aj:=zaa.mk hbox;replace HB:=bN bz hb;clear hb hbox hg;have lW:=aa.out;have lX:=Z.out;obtain⟨jy,jz,jA,jB,jC,jD,jE,jF,jG,jH,jI,jJ,jK,jL⟩:=cz7 (W:=lV) aj)|(go_at_call 68;(with_reducible refine(zai.calls aK a0 a1 ab ac af false A bJ _ lU.out).mono ?_);rintro e mo ⟨rfl,hb⟩;replace B:=kN (g:=D) (cs:=#[.bool J,.bool K,.bool false,.bool M,.bool O,.int .i64 E,.int .i64 I,.int .i32 A]) hb bk;replace aj:=kN (g:=ao) (cs:=#[.int .u64 a0,.int .i64 a1,.int .u64 ab,.int .i64 ac,.int .i64 af,.bool false,.int .i32 A]) hb bk;replace HB:=bN bz hb;(try clear hb);(try clear aN);(try clear hk);(try clear hi)))
       go_meet
       case rel=>exact⟨_,(bJ),(O),rz,H',⟨by have:=al.out;have:=ak.out;first|omega|exact Nat.le_refl _⟩,⟨bk⟩,⟨bz⟩⟩
      replace H:=hN H jg
      by_cases jM:ah=4
      ·subst jM
       replace H:=hE H rfl
       (try simp only[fnW_4])
       replace H:=bs H
       obtain⟨bK,lY,H⟩:=H
       have H':=zaa.mk H
       clear H
       obtain⟨jN,jO,jP,jQ,jR,jS,jT,jU,jV,jW,jX,jY,jZ,j5,j6,j7⟩:=cz8 (W:=wc) B
       go_wp2_with (first|((with_reducible refine zah (N:=15) rfl ?_);refine zag rfl (N:=15) rfl (cs:=#[.int .u64 0,.int .i64 0,.int .u64 0,.int .i64 0,.int .i64 0,.bool false,.int .i32 0]) (t:=74) gz ?_;intro ao hg lZ hbox hb;have aT:=gN bz hg;have aU:=gN bz hg;have Z:=lN (g:=D) (cs:=#[.bool J,.bool K,.bool false,.bool M,.bool O,.int .i64 E,.int .i64 I,.int .i32 A]) hg bk;have aa:=rN (g:=D) (cs:=#[.bool J,.bool K,.bool false,.bool M,.bool O,.int .i64 E,.int .i64 I,.int .i32 A]) hg bk;replace B:=kN (g:=D) (cs:=#[.bool J,.bool K,.bool false,.bool M,.bool O,.int .i64 E,.int .i64 I,.int .i32 A]) hb bk;have aj:=zaa.mk hbox;replace HB:=bN bz hb;clear hb hbox hg;have l0:=aa.out;have l1:=Z.out;obtain⟨j8,j9,ka,kb,kc,kf,kg,kh,ki,kj,kk,kl,km,kn⟩:=cz7 (W:=lZ) aj)|(go_at_call 69;(with_reducible refine(zaJ.calls a0 a1 ab ac af false A bK _ lY.out).mono ?_);rintro e mp ⟨rfl,hb⟩;replace B:=kN (g:=D) (cs:=#[.bool J,.bool K,.bool false,.bool M,.bool O,.int .i64 E,.int .i64 I,.int .i32 A]) hb bk;replace aj:=kN (g:=ao) (cs:=#[.int .u64 a0,.int .i64 a1,.int .u64 ab,.int .i64 ac,.int .i64 af,.bool false,.int .i32 A]) hb bk;replace HB:=bN bz hb;(try clear hb);(try clear aN);(try clear hk);(try clear hi)))
       go_meet
       case rel=>exact⟨_,(bK),(O),rz,H',⟨by have:=al.out;have:=ak.out;first|omega|exact Nat.le_refl _⟩,⟨bk⟩,⟨bz⟩⟩
      replace H:=hN H jM
      by_cases ko:ah=5
      ·subst ko
       replace H:=hE H rfl
       (try simp only[fnW_5])
       replace H:=bs H
       obtain⟨bL,l2,H⟩:=H
       have H':=zaa.mk H
       clear H
       obtain⟨kp,kr,kt,ku,kv,kw,kx,ky,kz,kA,kB,kC,kD,kE,kF,kG⟩:=cz8 (W:=wc) B
       go_wp2_with (first|((with_reducible refine zah (N:=15) rfl ?_);refine zag rfl (N:=15) rfl (cs:=#[.int .u64 0,.int .i64 0,.int .u64 0,.int .i64 0,.int .i64 0,.bool false,.int .i32 0]) (t:=74) gz ?_;intro ao hg l3 hbox hb;have aT:=gN bz hg;have aU:=gN bz hg;have Z:=lN (g:=D) (cs:=#[.bool J,.bool K,.bool false,.bool M,.bool O,.int .i64 E,.int .i64 I,.int .i32 A]) hg bk;have aa:=rN (g:=D) (cs:=#[.bool J,.bool K,.bool false,.bool M,.bool O,.int .i64 E,.int .i64 I,.int .i32 A]) hg bk;replace B:=kN (g:=D) (cs:=#[.bool J,.bool K,.bool false,.bool M,.bool O,.int .i64 E,.int .i64 I,.int .i32 A]) hb bk;have aj:=zaa.mk hbox;replace HB:=bN bz hb;clear hb hbox hg;have l4:=aa.out;have l5:=Z.out;obtain⟨kH,kI,kJ,kK,kL,kM,kO,kP,kQ,kR,kS,kT,kU,kV⟩:=cz7 (W:=l3) aj)|(go_at_call 70;(with_reducible refine(zae.calls aK a0 a1 ab ac af false A bL _ l2.out).mono ?_);rintro e mc ⟨rfl,hb⟩;replace B:=kN (g:=D) (cs:=#[.bool J,.bool K,.bool false,.bool M,.bool O,.int .i64 E,.int .i64 I,.int .i32 A]) hb bk;replace aj:=kN (g:=ao) (cs:=#[.int .u64 a0,.int .i64 a1,.int .u64 ab,.int .i64 ac,.int .i64 af,.bool false,.int .i32 A]) hb bk;replace HB:=bN bz hb;(try clear hb);(try clear aN);(try clear hk);(try clear hi)))
       go_meet
       case rel=>exact⟨_,(bL),(O),rz,H',⟨by have:=al.out;have:=ak.out;first|omega|exact Nat.le_refl _⟩,⟨bk⟩,⟨bz⟩⟩
      replace H:=hN H ko
      exact absurd H (by simp)
     case rest=>
      clear bl
      try clear aW
      try clear au av aw ax ay az aA aB aC aD aE aF aG aH aI aJ
      obtain⟨kq,ag,ad,rfl,HA,bM,B,HB⟩:=hcut
      cases kq with
      |zero=>exact absurd HA.out (by simp[zaf.j3])
      |succ kW=>
       have H:=HA.out
       clear HA
       simp only[zaf.j3] at H
       have a8:=zaa.mk H
       clear H
       go_upto_region 22 with(fail)
       go_cut [82] (fun l6 wc=> ∃(kq:Nat) (aL:Bool),l6= .bool aL∧zaa (zaf.j4 kq U ag aL J K ae M ad E I A=some (r1,r2))∧zaa (kq≤kW)∧zaa (wc.heap[D]? =some (.cells #[.bool J,.bool K,.bool ae,.bool M,.bool ad,.int .i64 E,.int .i64 I,.int .i32 A] 26 (0,0)))∧zaa (Below w.heap.size w wc))
       case first=>
        have H:=a8.out
        clear a8
        by_cases ba:ad=true
        ·subst ba
         replace H:=hT H
         have H':=zaa.mk H
         clear H
         obtain⟨bW,bX,bY,bZ,b0,b1,b2,b3,b4,b5,b6,b7,b8,ca,cb,cc⟩:=cz8 (W:=wc) B
         go_wp2
         go_meet
         case rel=>exact⟨_,(!K),rz,H',⟨by have:=al.out;have:=ak.out;have:=bM.out;first|omega|exact Nat.le_refl _⟩,⟨bk⟩,⟨bz⟩⟩
        replace ba:=Bool.eq_false_iff.mpr ba
        subst ba
        replace H:=hF H
        have H':=zaa.mk H
        clear H
        obtain⟨cd,ce,cf,cg,ci,cj,ck,cm,cn,co,cp,cq,cr,ct,cu,cv⟩:=cz8 (W:=wc) B
        go_wp2
        go_meet
        case rel=>exact⟨_,(false),rz,H',⟨by have:=al.out;have:=ak.out;have:=bM.out;first|omega|exact Nat.le_refl _⟩,⟨bk⟩,⟨bz⟩⟩
       case rest=>
        clear a8
        try clear aW
        try clear au av aw ax ay az aA aB aC aD aE aF aG aH aI aJ
        obtain⟨kq,aL,rfl,HA,l7,B,HB⟩:=hcut
        cases kq with
        |zero=>exact absurd HA.out (by simp[zaf.j4])
        |succ l8=>
         have H:=HA.out
         clear HA
         simp only[zaf.j4] at H
         by_cases bb:aL=true
         case neg=>
          replace bb:=Bool.eq_false_iff.mpr bb
          subst bb
          replace H:=hF H
          by_cases aZ:U.size+ag.size≤9223372036854775807
          ·replace H:=hE H aZ
           have lc:=eq_true aZ
           have lf:=decide_eq_true aZ
           have lg:=eq_false (Nat.not_lt.2 aZ)
           replace H:=bs H
           obtain⟨k0,k2,H⟩:=H
           simp only[Option.some.injEq,Prod.mk.injEq] at H
           obtain⟨rfl,rfl⟩:=H
           obtain⟨c9,da,db,dc,dd,de,df,dh,di,dj,dk,dl,dm,dn,dp,dq⟩:=cz8 (W:=wc) B
           go_wp2_with (first|((with_reducible refine zac (f:=45) rfl ?_);refine gB Tryz.func45 (zbp.calls (U++ag) J K ae M false E I A k0 _ k2.out) ?_;intro me hb;replace B:=kN (g:=D) (cs:=#[.bool J,.bool K,.bool ae,.bool M,.bool false,.int .i64 E,.int .i64 I,.int .i32 A]) hb bk;replace HB:=bN bz hb;(try clear hb);(try clear aN);(try clear hk);(try clear hi)))
           go_ret2
           exact⟨ez,bz⟩
          replace H:=hN H aZ
          exact absurd H (by simp)
         subst bb
         replace H:=hT H
         obtain⟨aV,aP⟩:=ex (mn E 1000)
         (first|rw[aP] at H|simp only[aP] at H)
         have bo:(if 1000<E then 1000 else E)=aV:=aP
         obtain⟨ap,aM⟩:=ex (mx 0 (aV))
         (first|rw[aM] at H|simp only[aM] at H)
         have aY:(if 0<(aV) then(aV) else 0)=ap:=aM
         replace H:=bs H
         obtain⟨bd,be,H⟩:=H
         obtain⟨bp,H⟩:=hG H
         have k5:=eq_true bp
         have k6:=decide_eq_true bp
         have k7:=eq_false (Nat.not_lt.2 bp)
         obtain⟨bq,H⟩:=hG H
         have k8:=eq_true bq
         have k9:=decide_eq_true bq
         have lb:=eq_false (Nat.not_lt.2 bq)
         replace H:=bs H
         obtain⟨kX,kY,H⟩:=H
         simp only[Option.some.injEq,Prod.mk.injEq] at H
         obtain⟨rfl,rfl⟩:=H
         obtain⟨cw,cx,cy,cz,cA,cB,cC,cD,cF,cG,cH,cI,cJ,cK,cL,cM⟩:=cz8 (W:=wc) B
         have hbl_:0≤ap:=by rw[←aY];split<;>omega
         have hbh_:ap≤1000:=by rw[←aY,←bo];repeat' split<;>omega
         have hs_:U.size+(bd.size+ag.size)≤9223372036854775807:=by have h_:U.size+(bd++ag).size≤9223372036854775807:=of_decide_eq_true (by assumption);rw[ByteArray.size_append] at h_;exact h_
         have bO:wrap64 (ap-(U.size:Int))=ap-(U.size:Int):=by unfold wrap64;omega
         have bP:wrap64 (ap-(U.size:Int)-(ag.size:Int))=ap-(U.size:Int)-(ag.size:Int):=by unfold wrap64;omega
         have A_:=be.out
         clear be
         rw[bO,bP] at A_
         clear bO bP
         have be:=zaa.mk A_
         clear A_
         go_wp2_with (first|((with_reducible refine zac (f:=27) rfl ?_);refine gB Tryz.func27 (zbo.calls 48 (ap-(U.size:Int)-(ag.size:Int)) bd _ be.out) ?_ (hargs:=by(try simp only[List.map_toArray,List.map_cons,List.map_nil]);first|done|(simp only[aM];rfl)|rfl|(simp only[List.length_drop,List.length_take];rfl));intro kZ hb;replace B:=kN (g:=D) (cs:=#[.bool J,.bool K,.bool ae,.bool M,.bool ad,.int .i64 E,.int .i64 I,.int .i32 A]) hb bk;replace HB:=bN bz hb;(try clear hb);(try clear aN);(try clear hk);(try clear hi);obtain⟨cN,cO,cP,cQ,cR,cS,cT,cV,cW,cX,cY,cZ,c5,c6,c7,c8⟩:=cz8 (W:=kZ) B)|((with_reducible refine zac (f:=45) rfl ?_);refine gB Tryz.func45 (zbp.calls (U++(bd++ag)) J K ae M false E I A kX _ kY.out) ?_;intro md hb;replace B:=kN (g:=D) (cs:=#[.bool J,.bool K,.bool ae,.bool M,.bool false,.int .i64 E,.int .i64 I,.int .i32 A]) hb bk;replace HB:=bN bz hb;(try clear hb);(try clear aN);(try clear hk);(try clear hi)))
         go_ret2
         exact⟨by first|exact ez|(simp only[←aP,←aM];exact ez),bz⟩
end Go.Proofs.YtecpgdfnamkfdaaGreatDoor.Fn
end
section
namespace Go.Proofs.YtecpgdfnamkfdaaGreatDoor.Pure
open Go.RowKit Go.Proofs.YtecpgdfnamkfdaaGreatDoorW.PrintWords Go.Proofs.YtecpgdfnamkfdaaGreatDoorW.PrintLast Go.Proofs.YtecpgdfnamkfdaaGreatDoorW.PrintMore Go.Proofs.YtecpgdfnamkfdaaGreatDoor.Fn
set_option linter.unusedVariables false
set_option linter.unusedSimpArgs false
def codeV(v:Int):Int:=if v=101∨v=69 then 1 else if v=102∨v=70 then 2 else if v=103∨v=71∨v=118 then 3 else if v=98 then 4 else if v=120∨v=88 then 5 else 0
theorem zgV(v:Int)(k:Nat):zaz.f (k+3) v=some (codeV v):=by
  unfold codeV zaz.f
  simp only[zaz.j0,zaz.j1,zaz.j2]
  by_cases d1:v=101
  · subst d1;rfl
  by_cases d2:v=69
  · subst d2;rfl
  by_cases d3:v=102
  · subst d3;rfl
  by_cases d4:v=70
  · subst d4;rfl
  by_cases d5:v=103
  · subst d5;rfl
  by_cases d6:v=71
  · subst d6;rfl
  by_cases d7:v=118
  · subst d7;rfl
  by_cases d8:v=98
  · subst d8;rfl
  by_cases d9:v=120
  · subst d9;rfl
  by_cases A:v=88
  · subst A;rfl
  simp[d1,d2,d3,d4,d5,d6,d7,d8,d9,A]
theorem zgW(v:Int):Ev (fun k=>zaz.f k v) (codeV v):=
  ⟨3,fun k hk=>by obtain⟨j,rfl⟩: ∃j,k=j+3:=⟨k-3,by omega⟩;exact zgV v j⟩
theorem zhz(v:Int):0≤codeV v∧codeV v≤5:=by
  unfold codeV
  repeat' split
  all_goals decide
def signL(neg:Bool)(kind:Int)(plus space:Bool):List UInt8:=if neg=true∧kind≠2 then [45] else if plus then [43] else if space then [32] else if kind=1 then [43] else []
theorem zd1(neg:Bool)(kind:Int)(plus space:Bool):(signL neg kind plus space).length≤1∧Asc (signL neg kind plus space):=by
  unfold signL
  repeat' split
  all_goals exact⟨by decide,by decide⟩
def clamp(prec:Int):Int:=max (-1) (min prec 1000)
theorem zhA(prec:Int): -1≤clamp prec∧clamp prec≤1000:=by unfold clamp;omega
def restL(wide:Bool)(p m:Nat)(e prec v:Int)(sharp:Bool):List UInt8:=
  if codeV v=1 then scaledL (sharp&&v !=118) (bigV v) (exD m e) (six prec)
  else if codeV v=2 then fixedL (sharp&&v !=118) (exD m e) (six prec)
  else if codeV v=3 then genOf wide p m e prec (sharp&&v !=118) (bigV v)
  else if codeV v=4 then binL m e
  else hexL m e prec (sharp&&v !=118) (v==88)
def Fit(l:List UInt8):Prop:=Asc l∧l.length≤100000
theorem zex{l:List UInt8}(h:Asc l)(hl:l.length≤50000)(dot big:Bool)(e:Int):Fit (sciL dot big l e):=by
  refine⟨zhu h dot big e,?_⟩
  have h1:=zbV dot (l.take 1) (l.drop 1)
  have h2:=zb9 (eMark big) (e:=e) (least:=2) (by decide)
  have hm:(eMark big).length=1:=by cases big<;>rfl
  rw[List.length_take,List.length_drop] at h1
  unfold sciL
  rw[List.length_append]
  omega
theorem zej{l:List UInt8}(h:Asc l)(hl:l.length≤20000)(dot:Bool){p:Int}(hp: -20000≤p∧p≤20000):Fit (aroundL dot l p):=by
  refine⟨zfw h dot p,?_⟩
  have hf:=zbf l p
  unfold aroundL
  split
  · have h1:=zbV dot [48] (zsL (-p).toNat++l)
    rw[List.length_append,zbe] at h1
    simp at h1
    omega
  · have h1:=zbV dot ((fillL l p).take p.toNat) ((fillL l p).drop p.toNat)
    rw[List.length_take,List.length_drop] at h1
    omega
theorem zge{v:List UInt8×Int}(h:Near v)(dot big:Bool){p:Int}(hp:0≤p∧p≤1000):Fit (scaledL dot big v p):=by
  have hb:=zbD h (p+1)
  have hf:=zbf (roundN v.1 v.2 (p+1)).1 (p+1)
  exact zex (zbM (zcg h.form (p+1)).1.asc _) (by omega) dot big _
theorem zgX{v:List UInt8×Int}(h:Near v)(dot:Bool){p:Int}(hp:0≤p∧p≤1000):Fit (fixedL dot v p):=by
  have hb:=zbD h (v.2+p)
  have ha:=(zcg h.form (v.2+p)).1.asc
  unfold fixedL
  generalize roundN v.1 v.2 (v.2+p)=d at*
  split
  · refine⟨zck (by decide) (zcH _) dot,?_⟩
    have h1:=zbV dot [48] (zsL p.toNat)
    rw[zbe] at h1
    simp at h1
    omega
  · split
    · refine⟨zck (by decide) (zbM ((zcH _).app ha) _) dot,?_⟩
      have h1:=zbV dot [48] (fillL (zsL (-d.2).toNat++d.1) p)
      have hf:=zbf (zsL (-d.2).toNat++d.1) p
      rw[List.length_append,zbe] at hf
      simp at h1
      omega
    · have hf:=zbf d.1 (d.2+p)
      exact zej (zbM ha _) (by omega) dot (by omega)
theorem zfR{d:List UInt8×Int}(ha:Asc d.1)(hd:d.1.length≤2000∧ -4000≤d.2∧d.2≤1500)(dot big:Bool){keep top:Int}(hk:1≤keep∧keep≤1000):Fit (genL dot big d keep top):=by
  have hfb:=zbZ (d:=d) hd.2
  unfold genL
  dsimp only
  have hl:Asc (if d.1=[] then [48] else d.1)∧(if d.1=[] then([48]:List UInt8) else d.1).length≤2000:=by
    split
    · exact⟨by decide,by decide⟩
    · exact⟨ha,hd.1⟩
  generalize (if d.1=[] then([48]:List UInt8) else d.1)=l at*
  have hm:Asc (if dot=true then fillL l keep else l)∧(if dot=true then fillL l keep else l).length≤3000:=by
    have hf:=zbf l keep
    split
    · exact⟨zbM hl.1 _,by omega⟩
    · exact⟨hl.1,by omega⟩
  split
  · exact zex hm.1 (by omega) dot big _
  · exact zej hm.1 (by omega) dot (by omega)
theorem zeS(wide:Bool){p:Nat}(hp:p<ii wide):InForm (shortL wide p).1 (shortL wide p).2∧(shortL wide p).1.length≤2000∧ -4000≤(shortL wide p).2∧(shortL wide p).2≤1500:=by
  unfold shortL
  by_cases c:p=0
  · rw[if_pos c];exact⟨⟨AllD.nil,fun c t e=>(by cases e),rfl,fun _=>rfl⟩,by decide,by decide,by decide⟩
  · rw[if_neg c]
    obtain⟨M,h1,h2,h3⟩:=zgd wide p
    have hv:=zfP wide hp
    have hl:=hv.len
    have hlo:=hv.lo
    have hhi:=hv.hi
    rcases zgU h2 with⟨_,e⟩|⟨hn,u,hu,e,_⟩
    · rw[e];exact⟨hv.form,by omega,by omega,by omega⟩
    · have hc:=zhR hv M hn
      have A:u<10^(M+1):=by
        rw[Nat.pow_succ]
        have:1≤10^M:=Nat.pow_pos (by decide)
        rcases hu with hu|hu<;>omega
      have hb:=zbC A (cE (exV wide p) M)
      rw[e]
      unfold cE at hb ⊢
      exact⟨zba _ _,by omega,by omega,by omega⟩
theorem zgY(wide:Bool){p:Nat}(hp:p<ii wide){m:Nat}(hm:m<18446744073709551616){e:Int}(h: -1200≤e∧e≤1200){prec:Int}(hq: -1≤prec∧prec≤1000)(dot big:Bool):Fit (genOf wide p m e prec dot big):=by
  unfold genOf
  split
  · have:=zeS wide hp
    exact zfR this.1.1.asc this.2 dot big (by decide)
  · have hn:=zcm hm h
    have hb:=zbD hn (max prec 1)
    exact zfR (zcg hn.form _).1.asc (by omega) dot big (by omega)
theorem ziv(m:Nat)(e:Int):Fit (binL m e):=by
  refine⟨(zfe (by decide) m).app (zdd (by decide) e 1),?_⟩
  have h1:=zeg 10 m
  have h2:=zb9 ([112]:List UInt8) (e:=e) (least:=1) (by decide)
  unfold binL
  rw[List.length_append]
  simp at h2
  omega
set_option maxRecDepth 100000 in
theorem zgZ(b:UInt8)(h:b.toNat<128):(Lib.upperB b).toNat<128:=by
  have key: ∀n:Fin 256,n.val<128→(Lib.upperB (UInt8.ofNat n.val)).toNat<128:=by decide
  have:=key ⟨b.toNat,b.toNat_lt⟩ h
  rwa [UInt8.ofNat_toNat] at this
theorem zdf{lead ds:List UInt8}(hl:lead.length≤10∧Asc lead)(hd:ds.length≤2000∧Asc ds)(dot up:Bool)(x:Int):Fit (hexEnd dot up lead ds x):=by
  have h1:=zbV dot lead ds
  have h2:=zb9 ([112]:List UInt8) (e:=x) (least:=2) (by decide)
  have ha:Asc ([48,120]++(ptL dot lead ds++powL [112] x 2)):=Asc.app (by decide) ((zck hl.2 hd.2 dot).app (zdd (by decide) x 2))
  have hlen:([48,120]++(ptL dot lead ds++powL [112] x 2)).length≤100000:=by simp at h2 ⊢;omega
  unfold hexEnd
  split
  · refine⟨fun c hc=>?_,by unfold Lib.toUpperA;rw[List.length_map];exact hlen⟩
    unfold Lib.toUpperA at hc
    obtain⟨b,hb,rfl⟩:=List.mem_map.1 hc
    exact zgZ b (ha b hb)
  · exact⟨ha,hlen⟩
theorem zdL(dot up:Bool){lead:List UInt8}(hl:lead.length≤10∧Asc lead){part:Nat}(hp:part≤18446744073709551615)(x:Int){prec:Int}(hq: -1≤prec∧prec≤1000):Fit (hexTail dot up lead part x prec):=by
  have hs:=zdY hp
  unfold hexTail
  split
  · exact zdf hl ⟨by have:=zgT (sixL part);omega,zgS (zcI _)⟩ dot up x
  · split
    · have hf:=zbf (sixL part) prec
      exact zdf hl ⟨by omega,zbM (zcI _) _⟩ dot up x
    · unfold hexMid
      dsimp only
      refine zdf hl ?_ dot up _
      split
      · exact⟨by decide,Asc.nil⟩
      · refine⟨?_,(zcI _).take _⟩
        rw[List.length_take]
        omega
theorem ziw(m:Nat)(e:Int){prec:Int}(hq: -1≤prec∧prec≤1000)(dot up:Bool):Fit (hexL m e prec dot up):=by
  unfold hexL
  split
  · exact zdL dot up ⟨by decide,by decide⟩ (by decide) _ hq
  · exact zdL dot up ⟨by decide,by decide⟩ (by omega) _ hq
theorem zg0{prec:Int}(hq: -1≤prec∧prec≤1000):0≤six prec∧six prec≤1000:=by unfold six;split<;>omega
theorem zhB(wide:Bool){p:Nat}(hp:p<ii wide){m:Nat}(hm:m<18446744073709551616){e:Int}(h: -1200≤e∧e≤1200){prec:Int}(hq: -1≤prec∧prec≤1000)(v:Int)(sharp:Bool):Fit (restL wide p m e prec v sharp):=by
  have hn:=zcm hm h
  unfold restL
  repeat' split
  · exact zge hn _ _ (zg0 hq)
  · exact zgX hn _ (zg0 hq)
  · exact zgY wide hp hm h hq _ _
  · exact ziv m e
  · exact ziw m e hq _ _
def endL(sign rest:List UInt8)(minus zero:Bool)(wid:Int):List UInt8:=
  padL (sign++(if zero&& !minus then List.replicate (max 0 (min wid 1000)-sign.length-rest.length).toNat 48++rest else rest)) minus false wid
theorem zfo{sign rest:List UInt8}(hs:sign.length≤1∧Asc sign)(hr:Fit rest)(plus minus sharp space zero:Bool)(wid prec v:Int):
    Ev (fun k=>zaf.j3 k (S sign) (S rest) plus minus sharp space zero wid prec v) (S (endL sign rest minus zero wid),true):=by
  have ha:=hr.1
  have hl:=hr.2
  have key: ∀u:Bool,Ev (fun k=>zaf.j4 k (S sign) (S rest) u plus minus sharp space zero wid prec v) (S (padL (sign++(if u then List.replicate (max 0 (min wid 1000)-sign.length-rest.length).toNat 48++rest else rest)) minus false wid),true):=by
    intro u
    refine Ev.step (fun k=>by simp only[zaf.j4];rfl) ?_
    cases u with
    |true=>
      refine Ev.congr (fun k=>if_pos rfl) ?_
      rw[if_pos rfl,zau,zau,zcC,zef,w64 (x:=max 0 (min wid 1000)-(sign.length:Int)) (by omega) (by omega),w64 (by omega) (by omega)]
      have hf:=zfL 48 (max 0 (min wid 1000)-(sign.length:Int)-(rest.length:Int))
      rw[show(((48:UInt8).toNat:Nat):Int)=48 from rfl,show(min (max 0 (min wid 1000)-(sign.length:Int)-(rest.length:Int)) 1000).toNat=(max 0 (min wid 1000)-(sign.length:Int)-(rest.length:Int)).toNat by omega] at hf
      rw[hf]
      simp only[Option.bind_some]
      generalize hz:(max 0 (min wid 1000)-(sign.length:Int)-(rest.length:Int)).toNat=n
      have hn:n≤1000:=by omega
      refine Ev.congr (fun k=>if_pos (by rw[zau,List.length_replicate];omega)) ?_
      rw[zbY]
      refine Ev.congr (fun k=>if_pos (by rw[zau,List.length_append,List.length_replicate];omega)) ?_
      rw[zbY,zgM (hs.2.app ((Asc.rep n (by decide)).app ha)) (by rw[List.length_append,List.length_append,List.length_replicate];omega)]
      exact Ev.now _
    |false=>
      refine Ev.congr (fun k=>if_neg (by simp)) ?_
      show Ev _ (S (padL (sign++rest) minus false wid),true)
      refine Ev.congr (fun k=>if_pos (by rw[zau,zau];omega)) ?_
      rw[zbY,zgM (hs.2.app ha) (by rw[List.length_append];omega)]
      exact Ev.now _
  refine Ev.step (fun k=>by simp only[zaf.j3];rfl) ?_
  unfold endL
  cases zero with
  |true=>exact Ev.congr (fun k=>if_pos rfl) (key (!minus))
  |false=>exact Ev.congr (fun k=>if_neg (by simp)) (key false)
def floatS(wide:Bool)(a:Nat)(plus minus sharp space zero:Bool)(wid prec v:Int):ByteArray×Bool:=
  if codeV v=0 then(⟨#[]⟩,false)
  else if bareN wide a<ii wide then(S (endL (signL (a / tt wide%2==1) 0 plus space) (restL wide (bareN wide a) (fM (ff wide) (bareN wide a)) ((fE (ff wide) (bareN wide a):Int)-(ll wide:Int)) (clamp prec) v sharp) minus zero wid),true)
  else if bareN wide a=ii wide then(S (endL (signL (a / tt wide%2==1) 1 plus space) [73,110,102] minus false wid),true)
  else(S (endL (signL (a / tt wide%2==1) 2 plus space) [78,97,78] minus false wid),true)
theorem zfS{R:ByteArray×Bool}(x0 x1 x9 B A D:Int)(neg plus minus sharp space zero:Bool)(wid prec v:Int)
    (h:Ev (fun k=>zaf.j2 k x0 x1 x9 B A D (S (signL neg A plus space)) plus minus sharp space zero wid prec v) R) (u:Bool) (hu:u=decide (neg=true∧A≠2)):
    Ev (fun k=>zaf.j1 k x0 x1 x9 B A D (⟨#[]⟩:ByteArray) u plus minus sharp space zero wid prec v) R:=by
  unfold signL at h
  refine Ev.step (fun k=>by simp only[zaf.j1];rfl) ?_
  by_cases c:neg=true∧A≠2
  · have:u=true:=by rw[hu];exact decide_eq_true c
    subst this
    rw[if_pos c] at h
    exact Ev.congr (fun k=>if_pos rfl) h
  · have:u=false:=by rw[hu];exact decide_eq_false c
    subst this
    rw[if_neg c] at h
    refine Ev.congr (fun k=>if_neg (by simp)) ?_
    cases plus with
    |true=>exact Ev.congr (fun k=>if_pos rfl) h
    |false=>
      refine Ev.congr (fun k=>if_neg (by simp)) ?_
      cases space with
      |true=>exact Ev.congr (fun k=>if_pos rfl) h
      |false=>
        refine Ev.congr (fun k=>if_neg (by simp)) ?_
        by_cases c1:A=1
        · rw[if_neg (by simp),if_neg (by simp),if_pos c1] at h
          exact Ev.congr (fun k=>if_pos c1) h
        · rw[if_neg (by simp),if_neg (by simp),if_neg c1] at h
          exact Ev.congr (fun k=>if_neg c1) h
theorem zg1(prec:Int):mx (-1) (mn prec 1000)=clamp prec:=by rw[zcC,zef];rfl
theorem zix(wide:Bool){a p:Nat}(ha:a<18446744073709551616)(hb:bareN wide a=p)(hp:p<ii wide){m:Nat}(hm:m<18446744073709551616){e:Int}(h: -1200≤e∧e≤1200){sign:List UInt8}(hs:sign.length≤1∧Asc sign)(plus minus sharp space zero:Bool)(wid prec v:Int)(hc:codeV v≠0):
    Ev (fun k=>zaf.j2 k (a:Int) (szB wide) (m:Int) e 0 (codeV v) (S sign) plus minus sharp space zero wid prec v) (S (endL sign (restL wide p m e (clamp prec) v sharp) minus zero wid),true):=by
  have hq:=zhA prec
  have hfit:=zhB wide hp hm h hq v sharp
  have hend:=zfo hs hfit plus minus sharp space zero wid prec v
  have hsl:=(zeS wide hp).2
  have hcl:=zhz v
  refine Ev.step (fun k=>by simp only[zaf.j2];rfl) ?_
  refine Ev.congr (fun k=>if_neg (by decide)) ?_
  refine Ev.congr (fun k=>if_neg (by decide)) ?_
  rw[zg1]
  have way: ∀dot:Bool,dot=(sharp&&v !=118)→Ev (fun k=>if codeV v=1 then((zam.f k (a:Int) (szB wide) (m:Int) e (clamp prec) dot v).bind fun A=>(zaf.j3 k (S sign) A plus minus sharp space zero wid prec v)) else(if codeV v=2 then((zal.f k (a:Int) (szB wide) (m:Int) e (clamp prec) dot v).bind fun B=>(zaf.j3 k (S sign) B plus minus sharp space zero wid prec v)) else(if codeV v=3 then((zai.f k (a:Int) (szB wide) (m:Int) e (clamp prec) dot v).bind fun D=>(zaf.j3 k (S sign) D plus minus sharp space zero wid prec v)) else(if codeV v=4 then((zaJ.f (a:Int) (szB wide) (m:Int) e (clamp prec) dot v).bind fun E=>(zaf.j3 k (S sign) E plus minus sharp space zero wid prec v)) else(if codeV v=5 then((zae.f k (a:Int) (szB wide) (m:Int) e (clamp prec) dot v).bind fun I=>(zaf.j3 k (S sign) I plus minus sharp space zero wid prec v)) else none)))))
      (S (endL sign (restL wide p m e (clamp prec) v sharp) minus zero wid),true):=by
    intro dot hd
    unfold restL at hend ⊢
    rw[←hd] at hend ⊢
    by_cases c1:codeV v=1
    · rw[if_pos c1] at hend ⊢
      exact Ev.congr (fun k=>if_pos c1) (Ev.bind (zgR _ _ hm h hq v dot) hend)
    · rw[if_neg c1] at hend ⊢
      refine Ev.congr (fun k=>if_neg c1) ?_
      by_cases c2:codeV v=2
      · rw[if_pos c2] at hend ⊢
        exact Ev.congr (fun k=>if_pos c2) (Ev.bind (zhy _ _ hm h hq v dot) hend)
      · rw[if_neg c2] at hend ⊢
        refine Ev.congr (fun k=>if_neg c2) ?_
        by_cases c3:codeV v=3
        · rw[if_pos c3] at hend ⊢
          exact Ev.congr (fun k=>if_pos c3) (Ev.bind (zi6 wide ha hb hp hsl hm h hq v dot) hend)
        · rw[if_neg c3] at hend ⊢
          refine Ev.congr (fun k=>if_neg c3) ?_
          by_cases c4:codeV v=4
          · rw[if_pos c4] at hend ⊢
            refine Ev.congr (fun k=>if_pos c4) ?_
            rw[zgL _ _ _ _ _ (by omega) (by omega)]
            exact hend
          · rw[if_neg c4] at hend ⊢
            refine Ev.congr (fun k=>if_neg c4) ?_
            exact Ev.congr (fun k=>if_pos (by omega)) (Ev.bind (zi7 _ _ v dot hm h hq) hend)
  cases sharp with
  |true=>exact Ev.congr (fun k=>if_pos rfl) (way (v !=118) (by simp))
  |false=>exact Ev.congr (fun k=>if_neg (by simp)) (way false rfl)
theorem zdg(wide:Bool){a:Nat}(ha:a<18446744073709551616)(plus minus sharp space zero:Bool)(wid prec v:Int):
    Ev (fun k=>zaf.f k (a:Int) (szB wide) plus minus sharp space zero wid prec v) (floatS wide a plus minus sharp space zero wid prec v):=by
  have hi:=zdc wide
  unfold zaf.f floatS
  rw[parts_eq wide a ha]
  simp only[Option.bind_some]
  refine Ev.bind (zgW v) ?_
  have hk: ∀x:Int,x=(partsS wide a).2.2.2→x≠3:=by
    intro x hx
    rw[hx]
    unfold partsS
    split
    · exact(by decide:(0:Int)≠3)
    · dsimp only;split<;>decide
  refine Ev.congr (fun k=>if_neg (hk _ rfl)) ?_
  refine Ev.step (fun k=>by simp only[zaf.j0];rfl) ?_
  by_cases c0:codeV v=0
  · rw[if_pos c0]
    exact Ev.congr (fun k=>if_pos (beq_iff_eq.mpr c0)) (Ev.now _)
  · rw[if_neg c0]
    refine Ev.congr (fun k=>if_neg (by rw[beq_eq_false_iff_ne.mpr c0];simp)) ?_
    have signs: ∀{R:ByteArray×Bool} (x9 B A:Int) (neg:Bool),Ev (fun k=>zaf.j2 k (a:Int) (szB wide) x9 B A (codeV v) (S (signL neg A plus space)) plus minus sharp space zero wid prec v) R→
        Ev (fun k=>if neg=true then(zaf.j1 k (a:Int) (szB wide) x9 B A (codeV v) (⟨#[]⟩:ByteArray) (A !=2) plus minus sharp space zero wid prec v) else(zaf.j1 k (a:Int) (szB wide) x9 B A (codeV v) (⟨#[]⟩:ByteArray) false plus minus sharp space zero wid prec v)) R:=by
      intro R x9 B A neg h
      cases neg with
      |true=>exact Ev.congr (fun k=>if_pos rfl) (zfS _ _ _ _ _ _ true plus minus sharp space zero wid prec v h _ (by rw[Bool.eq_iff_iff];simp))
      |false=>exact Ev.congr (fun k=>if_neg (by simp)) (zfS _ _ _ _ _ _ false plus minus sharp space zero wid prec v h _ (by rw[Bool.eq_iff_iff];simp))
    by_cases c1:bareN wide a<ii wide
    · rw[if_pos c1]
      have hb:=fEl wide (Nat.le_of_lt c1)
      have D:=zde wide (Nat.le_of_lt c1)
      have e1:partsS wide a=((a / tt wide%2==1:Bool),(fM (ff wide) (bareN wide a):Int),(fE (ff wide) (bareN wide a):Int)-(ll wide:Int),0):=by
        unfold partsS;rw[if_pos c1]
      rw[e1]
      exact signs _ _ _ _ (zix (m:=fM (ff wide) (bareN wide a)) (e:=(fE (ff wide) (bareN wide a):Int)-(ll wide:Int)) wide ha rfl c1 (by omega) (by omega) (zd1 _ _ _ _) plus minus sharp space zero wid prec v c0)
    · rw[if_neg c1]
      have e1:partsS wide a=((a / tt wide%2==1:Bool),0,0,if bareN wide a=ii wide then 1 else 2):=by
        unfold partsS;rw[if_neg c1]
      rw[e1]
      by_cases c2:bareN wide a=ii wide
      · rw[if_pos c2,if_pos c2]
        refine signs _ _ _ _ ?_
        refine Ev.step (fun k=>by simp only[zaf.j2];rfl) ?_
        refine Ev.congr (fun k=>if_neg (by decide)) ?_
        refine Ev.congr (fun k=>if_pos (by first|trivial|rfl)) ?_
        exact zfo (rest:=[73,110,102]) (zd1 _ _ _ _) ⟨by decide,by decide⟩ plus minus sharp space false wid prec v
      · rw[if_neg c2,if_neg c2]
        refine signs _ _ _ _ ?_
        refine Ev.step (fun k=>by simp only[zaf.j2];rfl) ?_
        refine Ev.congr (fun k=>if_pos (by first|trivial|rfl)) ?_
        exact zfo (rest:=[78,97,78]) (zd1 _ _ _ _) ⟨by decide,by decide⟩ plus minus sharp space false wid prec v
end Go.Proofs.YtecpgdfnamkfdaaGreatDoor.Pure
end
section
namespace Go.Proofs.YtecpgdfnamkfdaaGreatDoor.Fn
open Go.RowKit Go.Proofs.YtecpgdfnamkfdaaGreatDoorW.PrintWords Go.Proofs.YtecpgdfnamkfdaaGreatDoorW.PrintLast Go.Proofs.YtecpgdfnamkfdaaGreatDoorW.PrintMore
set_option linter.unusedVariables false
set_option linter.unusedSimpArgs false
set_option maxHeartbeats 8000000
set_option maxRecDepth 100000
section
attribute [local go_sem] fnW_0 fnW_1 fnW_2 fnW_3 fnW_4 fnW_5 fnW_guard fnW_eql zaF zaG zaK zaL
def zaH.f(k:Nat):Option (Bool):=(zax.f 101).bind fun A=>((zaf.f k 4609434218613702656 64 A.1 A.2.1 A.2.2.1 A.2.2.2.1 A.2.2.2.2.1 A.2.2.2.2.2.1 A.2.2.2.2.2.2.1 A.2.2.2.2.2.2.2).bind fun E=>((zax.f 118).bind fun B=>((zaf.f k 4591870180066957722 64 B.1 B.2.1 B.2.2.1 B.2.2.2.1 B.2.2.2.2.1 B.2.2.2.2.2.1 B.2.2.2.2.2.2.1 B.2.2.2.2.2.2.2).bind fun I=>((zax.f 100).bind fun D=>((zaf.f k 0 64 D.1 D.2.1 D.2.2.1 D.2.2.2.1 D.2.2.2.2.1 D.2.2.2.2.2.1 D.2.2.2.2.2.2.1 D.2.2.2.2.2.2.2).bind fun J=>(if E.2=true then(if I.2=true then(if J.2=true then(some false) else(if E.1.toList=([49,46,53,48,48,48,48,48,101,43,48,48]:List UInt8) then(some (I.1.toList==([48,46,49]:List UInt8))) else(some false))) else(some false)) else(some false)))))))
theorem zaH.calls(k:Nat)(r:Bool)(w:World)(h:zaH.f k=some r):
  Calls Tryz.prog 23 #[] w fun e w'=>e= .returned (.bool r)∧Below w.heap.size w w':=by
 have HB:=zaa.mk (Below.refl w.heap.size w)
 have H:((zax.f 101).bind fun B=>((zaf.f k 4609434218613702656 64 B.1 B.2.1 B.2.2.1 B.2.2.2.1 B.2.2.2.2.1 B.2.2.2.2.2.1 B.2.2.2.2.2.2.1 B.2.2.2.2.2.2.2).bind fun aw=>((zax.f 118).bind fun D=>((zaf.f k 4591870180066957722 64 D.1 D.2.1 D.2.2.1 D.2.2.2.1 D.2.2.2.2.1 D.2.2.2.2.2.1 D.2.2.2.2.2.2.1 D.2.2.2.2.2.2.2).bind fun ax=>((zax.f 100).bind fun E=>((zaf.f k 0 64 E.1 E.2.1 E.2.2.1 E.2.2.2.1 E.2.2.2.2.1 E.2.2.2.2.2.1 E.2.2.2.2.2.2.1 E.2.2.2.2.2.2.2).bind fun aA=>(if aw.2=true then(if ax.2=true then(if aA.2=true then(some false) else(if aw.1.toList=([49,46,53,48,48,48,48,48,101,43,48,48]:List UInt8) then(some (ax.1.toList==([48,46,49]:List UInt8))) else(some false))) else(some false)) else(some false))))))))=some r:=h
 clear h
 replace H:=bs H
 obtain⟨⟨I,J,K,M,O,U,X,Y⟩,A1,H⟩:=H
 dsimp only at H
 replace H:=bs H
 obtain⟨⟨Z,aD⟩,A2,H⟩:=H
 dsimp only at H
 replace H:=bs H
 obtain⟨⟨aa,ab,ac,ad,ae,af,ag,ah⟩,A3,H⟩:=H
 dsimp only at H
 replace H:=bs H
 obtain⟨⟨ar,az⟩,A4,H⟩:=H
 dsimp only at H
 replace H:=bs H
 obtain⟨⟨ai,aj,ak,al,am,an,ao,ap⟩,A5,H⟩:=H
 dsimp only at H
 replace H:=bs H
 obtain⟨⟨au,ay⟩,A6,H⟩:=H
 dsimp only at H
 by_cases c7:aD=true
 case neg=>
  replace c7:=Bool.eq_false_iff.mpr c7
  subst c7
  replace H:=hF H
  obtain rfl:=Option.some.inj H
  go_enter Tryz.func23,Tryz.ntmps23
  go_wp2_with (first|((with_reducible refine zac (f:=30) rfl ?_);refine gB Tryz.func30 (zax.calls 101 I J K M O U X Y _ A1.out) ?_;intro a3 hb;replace HB:=bN bz hb;(try clear hb);(try clear A);(try clear hk);(try clear hi))|((with_reducible refine zac (f:=25) rfl ?_);refine gB Tryz.func25 (zaf.calls k 4609434218613702656 64 I J K M O U X Y Z false _ A2.out) ?_;intro a4 hb;replace HB:=bN bz hb;(try clear hb);(try clear A);(try clear hk);(try clear hi))|((with_reducible refine zac (f:=30) rfl ?_);refine gB Tryz.func30 (zax.calls 118 aa ab ac ad ae af ag ah _ A3.out) ?_;intro a5 hb;replace HB:=bN bz hb;(try clear hb);(try clear A);(try clear hk);(try clear hi))|((with_reducible refine zac (f:=25) rfl ?_);refine gB Tryz.func25 (zaf.calls k 4591870180066957722 64 aa ab ac ad ae af ag ah ar az _ A4.out) ?_;intro a6 hb;replace HB:=bN bz hb;(try clear hb);(try clear A);(try clear hk);(try clear hi))|((with_reducible refine zac (f:=30) rfl ?_);refine gB Tryz.func30 (zax.calls 100 ai aj ak al am an ao ap _ A5.out) ?_;intro a7 hb;replace HB:=bN bz hb;(try clear hb);(try clear A);(try clear hk);(try clear hi))|((with_reducible refine zac (f:=25) rfl ?_);refine gB Tryz.func25 (zaf.calls k 0 64 ai aj ak al am an ao ap au ay _ A6.out) ?_;intro a8 hb;replace HB:=bN bz hb;(try clear hb);(try clear A);(try clear hk);(try clear hi)))
  go_ret
  exact⟨ez,bz⟩
 subst c7
 replace H:=hT H
 by_cases c8:az=true
 case neg=>
  replace c8:=Bool.eq_false_iff.mpr c8
  subst c8
  replace H:=hF H
  obtain rfl:=Option.some.inj H
  go_enter Tryz.func23,Tryz.ntmps23
  go_wp2_with (first|((with_reducible refine zac (f:=30) rfl ?_);refine gB Tryz.func30 (zax.calls 101 I J K M O U X Y _ A1.out) ?_;intro aW hb;replace HB:=bN bz hb;(try clear hb);(try clear A);(try clear hk);(try clear hi))|((with_reducible refine zac (f:=25) rfl ?_);refine gB Tryz.func25 (zaf.calls k 4609434218613702656 64 I J K M O U X Y Z true _ A2.out) ?_;intro aX hb;replace HB:=bN bz hb;(try clear hb);(try clear A);(try clear hk);(try clear hi))|((with_reducible refine zac (f:=30) rfl ?_);refine gB Tryz.func30 (zax.calls 118 aa ab ac ad ae af ag ah _ A3.out) ?_;intro aY hb;replace HB:=bN bz hb;(try clear hb);(try clear A);(try clear hk);(try clear hi))|((with_reducible refine zac (f:=25) rfl ?_);refine gB Tryz.func25 (zaf.calls k 4591870180066957722 64 aa ab ac ad ae af ag ah ar false _ A4.out) ?_;intro aZ hb;replace HB:=bN bz hb;(try clear hb);(try clear A);(try clear hk);(try clear hi))|((with_reducible refine zac (f:=30) rfl ?_);refine gB Tryz.func30 (zax.calls 100 ai aj ak al am an ao ap _ A5.out) ?_;intro a1 hb;replace HB:=bN bz hb;(try clear hb);(try clear A);(try clear hk);(try clear hi))|((with_reducible refine zac (f:=25) rfl ?_);refine gB Tryz.func25 (zaf.calls k 0 64 ai aj ak al am an ao ap au ay _ A6.out) ?_;intro a2 hb;replace HB:=bN bz hb;(try clear hb);(try clear A);(try clear hk);(try clear hi)))
  go_ret
  exact⟨ez,bz⟩
 subst c8
 replace H:=hT H
 by_cases c9:ay=true
 ·subst c9
  replace H:=hT H
  obtain rfl:=Option.some.inj H
  go_enter Tryz.func23,Tryz.ntmps23
  go_wp2_with (first|((with_reducible refine zac (f:=30) rfl ?_);refine gB Tryz.func30 (zax.calls 101 I J K M O U X Y _ A1.out) ?_;intro aE hb;replace HB:=bN bz hb;(try clear hb);(try clear A);(try clear hk);(try clear hi))|((with_reducible refine zac (f:=25) rfl ?_);refine gB Tryz.func25 (zaf.calls k 4609434218613702656 64 I J K M O U X Y Z true _ A2.out) ?_;intro aF hb;replace HB:=bN bz hb;(try clear hb);(try clear A);(try clear hk);(try clear hi))|((with_reducible refine zac (f:=30) rfl ?_);refine gB Tryz.func30 (zax.calls 118 aa ab ac ad ae af ag ah _ A3.out) ?_;intro aG hb;replace HB:=bN bz hb;(try clear hb);(try clear A);(try clear hk);(try clear hi))|((with_reducible refine zac (f:=25) rfl ?_);refine gB Tryz.func25 (zaf.calls k 4591870180066957722 64 aa ab ac ad ae af ag ah ar true _ A4.out) ?_;intro aH hb;replace HB:=bN bz hb;(try clear hb);(try clear A);(try clear hk);(try clear hi))|((with_reducible refine zac (f:=30) rfl ?_);refine gB Tryz.func30 (zax.calls 100 ai aj ak al am an ao ap _ A5.out) ?_;intro aI hb;replace HB:=bN bz hb;(try clear hb);(try clear A);(try clear hk);(try clear hi))|((with_reducible refine zac (f:=25) rfl ?_);refine gB Tryz.func25 (zaf.calls k 0 64 ai aj ak al am an ao ap au true _ A6.out) ?_;intro aJ hb;replace HB:=bN bz hb;(try clear hb);(try clear A);(try clear hk);(try clear hi)))
  go_ret
  exact⟨ez,bz⟩
 replace c9:=Bool.eq_false_iff.mpr c9
 subst c9
 replace H:=hF H
 by_cases av:Z.toList=([49,46,53,48,48,48,48,48,101,43,48,48]:List UInt8)
 ·replace H:=hE H av
  have aB:(Z.toList==([49,46,53,48,48,48,48,48,101,43,48,48]:List UInt8))=true:=beq_iff_eq.mpr av
  have aC:(Z.toList !=([49,46,53,48,48,48,48,48,101,43,48,48]:List UInt8))=false:=bne_eq_false_iff_eq.mpr av
  clear av
  obtain rfl:=Option.some.inj H
  go_enter Tryz.func23,Tryz.ntmps23
  go_wp2_with (first|((with_reducible refine zac (f:=30) rfl ?_);refine gB Tryz.func30 (zax.calls 101 I J K M O U X Y _ A1.out) ?_;intro aK hb;replace HB:=bN bz hb;(try clear hb);(try clear A);(try clear hk);(try clear hi))|((with_reducible refine zac (f:=25) rfl ?_);refine gB Tryz.func25 (zaf.calls k 4609434218613702656 64 I J K M O U X Y Z true _ A2.out) ?_;intro aL hb;replace HB:=bN bz hb;(try clear hb);(try clear A);(try clear hk);(try clear hi))|((with_reducible refine zac (f:=30) rfl ?_);refine gB Tryz.func30 (zax.calls 118 aa ab ac ad ae af ag ah _ A3.out) ?_;intro aM hb;replace HB:=bN bz hb;(try clear hb);(try clear A);(try clear hk);(try clear hi))|((with_reducible refine zac (f:=25) rfl ?_);refine gB Tryz.func25 (zaf.calls k 4591870180066957722 64 aa ab ac ad ae af ag ah ar true _ A4.out) ?_;intro aN hb;replace HB:=bN bz hb;(try clear hb);(try clear A);(try clear hk);(try clear hi))|((with_reducible refine zac (f:=30) rfl ?_);refine gB Tryz.func30 (zax.calls 100 ai aj ak al am an ao ap _ A5.out) ?_;intro aO hb;replace HB:=bN bz hb;(try clear hb);(try clear A);(try clear hk);(try clear hi))|((with_reducible refine zac (f:=25) rfl ?_);refine gB Tryz.func25 (zaf.calls k 0 64 ai aj ak al am an ao ap au false _ A6.out) ?_;intro aP hb;replace HB:=bN bz hb;(try clear hb);(try clear A);(try clear hk);(try clear hi)))
  go_ret
  exact⟨ez,bz⟩
 replace H:=hN H av
 have aB:(Z.toList==([49,46,53,48,48,48,48,48,101,43,48,48]:List UInt8))=false:=beq_eq_false_iff_ne.mpr av
 have aC:(Z.toList !=([49,46,53,48,48,48,48,48,101,43,48,48]:List UInt8))=true:=bne_iff_ne.mpr av
 obtain rfl:=Option.some.inj H
 go_enter Tryz.func23,Tryz.ntmps23
 go_wp2_with (first|((with_reducible refine zac (f:=30) rfl ?_);refine gB Tryz.func30 (zax.calls 101 I J K M O U X Y _ A1.out) ?_;intro aQ hb;replace HB:=bN bz hb;(try clear hb);(try clear A);(try clear hk);(try clear hi))|((with_reducible refine zac (f:=25) rfl ?_);refine gB Tryz.func25 (zaf.calls k 4609434218613702656 64 I J K M O U X Y Z true _ A2.out) ?_;intro aR hb;replace HB:=bN bz hb;(try clear hb);(try clear A);(try clear hk);(try clear hi))|((with_reducible refine zac (f:=30) rfl ?_);refine gB Tryz.func30 (zax.calls 118 aa ab ac ad ae af ag ah _ A3.out) ?_;intro aS hb;replace HB:=bN bz hb;(try clear hb);(try clear A);(try clear hk);(try clear hi))|((with_reducible refine zac (f:=25) rfl ?_);refine gB Tryz.func25 (zaf.calls k 4591870180066957722 64 aa ab ac ad ae af ag ah ar true _ A4.out) ?_;intro aT hb;replace HB:=bN bz hb;(try clear hb);(try clear A);(try clear hk);(try clear hi))|((with_reducible refine zac (f:=30) rfl ?_);refine gB Tryz.func30 (zax.calls 100 ai aj ak al am an ao ap _ A5.out) ?_;intro aU hb;replace HB:=bN bz hb;(try clear hb);(try clear A);(try clear hk);(try clear hi))|((with_reducible refine zac (f:=25) rfl ?_);refine gB Tryz.func25 (zaf.calls k 0 64 ai aj ak al am an ao ap au false _ A6.out) ?_;intro aV hb;replace HB:=bN bz hb;(try clear hb);(try clear A);(try clear hk);(try clear hi)))
 go_ret
 exact⟨ez,bz⟩
end
end Go.Proofs.YtecpgdfnamkfdaaGreatDoor.Fn
end
section
namespace Go.Proofs.YtecpgdfnamkfdaaGreatDoor.Pure
open Go.RowKit Go.Proofs.YtecpgdfnamkfdaaGreatDoorW.PrintWords Go.Proofs.YtecpgdfnamkfdaaGreatDoorW.PrintLast Go.Proofs.YtecpgdfnamkfdaaGreatDoorW.PrintMore Go.Proofs.YtecpgdfnamkfdaaGreatDoor.Fn
set_option linter.unusedVariables false
set_option linter.unusedSimpArgs false
theorem ex_e:floatS true 4609434218613702656 false false false false false (-1) (-1) 101=(S [49,46,53,48,48,48,48,48,101,43,48,48],true):=by decide+kernel
theorem ex_v:floatS true 4591870180066957722 false false false false false (-1) (-1) 118=(S [48,46,49],true):=by
  have h0:codeV 118=3:=by decide
  have h1:bareN true 4591870180066957722=4591870180066957722:=by decide
  have h2:(4591870180066957722:Nat)<ii true:=by decide
  unfold floatS
  rw[h1,if_neg (by rw[h0];decide),if_pos h2]
  have hr: ∀m e,restL true 4591870180066957722 m e (clamp (-1)) 118 false=[48,46,49]:=by
    intro m e
    unfold restL genOf shortL
    rw[h0,if_neg (by decide),if_neg (by decide),if_pos rfl,if_pos (by decide),if_neg (by decide),zfy]
    decide
  rw[hr]
  decide
theorem zi8:Ev (fun k=>zaH.f k) true:=by
  have h1:=zdg true (a:=4609434218613702656) (by decide) false false false false false (-1) (-1) 101
  rw[ex_e] at h1
  have h2:=zdg true (a:=4591870180066957722) (by decide) false false false false false (-1) (-1) 118
  rw[ex_v] at h2
  have h3:=zdg true (a:=0) (by decide) false false false false false (-1) (-1) 100
  rw[show floatS true 0 false false false false false (-1) (-1) 100=(⟨#[]⟩,false) from rfl] at h3
  unfold zaH.f zax.f
  simp only[Option.bind_some]
  refine Ev.bind (g:=fun k=>zaf.f k 4609434218613702656 64 false false false false false (-1) (-1) 101) h1 ?_
  refine Ev.bind (g:=fun k=>zaf.f k 4591870180066957722 64 false false false false false (-1) (-1) 118) h2 ?_
  refine Ev.bind (g:=fun k=>zaf.f k 0 64 false false false false false (-1) (-1) 100) h3 ?_
  refine Ev.congr (fun k=>?_) (Ev.now _)
  rw[if_pos rfl,if_pos rfl,if_neg (by simp),if_pos (by rw[zbh,L_S]),zbh,L_S]
  rfl
theorem zeT:Ev (fun k=>(zaH.f k).bind fun t=>some t) true:=Ev.bind zi8 (Ev.now _)
theorem zg2(wide:Bool):zbq.f wide=some (szB wide):=by cases wide<;>rfl
def HeadD(l:List UInt8):Prop:= ∃c t,l=c::t∧48≤c.toNat∧c.toNat≤57
theorem HeadD.app{a:List UInt8}(h:HeadD a)(b:List UInt8):HeadD (a++b):=by
  obtain⟨c,t,rfl,h1⟩:=h
  exact⟨c,t++b,rfl,h1⟩
theorem zfT{n:Nat}(h:n<10):48≤(dch n).toNat∧(dch n).toNat≤57:=by
  unfold dch
  rw[if_pos h,UInt8.toNat_ofNat']
  omega
theorem zg3: ∀k n,AllD (bF 10 k n)
  |0,n=>fun c hc=>by
    rw[bF,List.mem_singleton] at hc
    rw[hc]
    exact zfT (Nat.mod_lt _ (by decide))
  |k+1,n=>by
    have hd:AllD [dch (n%10)]:=fun c hc=>by
      rw[List.mem_singleton] at hc
      rw[hc]
      exact zfT (Nat.mod_lt _ (by decide))
    unfold bF
    split
    · exact hd
    · exact(zg3 k _).append hd
theorem zfp(sign rest:List UInt8)(minus zero:Bool){wid:Int}(h:wid≤0):endL sign rest minus zero wid=sign++rest:=by
  have h1:(max 0 (min wid 1000)-(sign.length:Int)-(rest.length:Int)).toNat=0:=by omega
  have h2: ∀l:List UInt8,padL l minus false wid=l:=by
    intro l
    unfold padL
    rw[show(max 0 (min wid 1000)-(l.length:Int)).toNat=0 by omega]
    cases minus<;>simp
  unfold endL
  rw[h1,h2]
  split<;>simp
def readR(acc:List UInt8)(p:Int):ByteArray×Int×Bool:=
  (S (decOf (val acc) (p-acc.length)).1,(decOf (val acc) (p-acc.length)).2,acc !=[])
theorem S_ne(l:List UInt8):((S l).toList !=([]:List UInt8))=(l !=[]):=by rw[zbh,L_S]
theorem zch(P:List UInt8)(c:UInt8)(R:List UInt8):bt (S (P++c::R)) (P.length:Int)=(c.toNat:Int):=by
  rw[bt_L (S (P++c::R)) P.length (by rw[zau,List.length_append,List.length_cons];omega)]
  simp[L_S]
theorem zdv{acc:List UInt8}(ha:AllD acc)(hl:acc.length≤2000){p:Int}(hp: -5000≤p∧p≤5000):
    Ev (fun k=>(zas.f k (S acc) p).bind fun b=>(if b.2.2=0 then(some (b.1,b.2.1,((S acc).toList !=([]:List UInt8)))) else(some (b.1,b.2.1,false)))) (readR acc p):=by
  have h:=zcF (S acc) p
  rw[zeQ ha hl hp] at h
  refine Ev.bind h ?_
  refine Ev.congr (fun k=>if_pos rfl) ?_
  rw[S_ne]
  exact Ev.now _
theorem zhC{s acc:List UInt8}(ha:AllD acc)(hl:acc.length≤2000){p:Int}(hp: -5000≤p∧p≤5000)(dot:Bool):
    Ev (fun k=>zad.l0 k (S s) (S acc) p dot (s.length:Int)) (readR acc p):=by
  refine Ev.step (fun k=>by simp only[zad.l0];rfl) ?_
  refine Ev.congr (fun k=>if_neg (by rw[zau];omega)) ?_
  exact zdv ha hl hp
theorem ziy(P:List UInt8)(c:UInt8)(R:List UInt8):(S (P++c::R)).extract P.length (P.length+1)=S [c]:=by
  rw[←S_L ((S (P++c::R)).extract P.length (P.length+1)),zdn,L_S]
  simp
theorem zcs{r:ByteArray×Int×Bool}(dot:Bool)(R:List UInt8): ∀(D P acc:List UInt8) (p:Int),AllD D→(P++(D++R)).length≤1000000000→acc.length≤P.length→ -1000000000≤p→p≤P.length→
    Ev (fun k=>zad.l0 k (S (P++(D++R))) (S (acc++D)) (if dot then p else p+D.length) dot ((P.length+D.length:Nat):Int)) r→
    Ev (fun k=>zad.l0 k (S (P++(D++R))) (S acc) p dot (P.length:Int)) r
  |[],P,acc,p,_,_,_,_,_,h=>by
    simp only[List.append_nil,List.length_nil,Nat.add_zero] at h
    have e:(if dot=true then p else p+((0:Nat):Int))=p:=by split<;>omega
    rw[e] at h
    exact h
  |c::D,P,acc,p,hD,hL,hA,h1,h2,h=>by
    have hc:=hD c (by simp)
    have hlen:(P++(c::D++R)).length=P.length+(D.length+1+R.length):=by simp;omega
    refine Ev.step (fun k=>by simp only[zad.l0];rfl) ?_
    refine Ev.congr (fun k=>if_pos (by rw[zau,hlen];omega)) ?_
    refine Ev.congr (fun k=>if_pos (by omega)) ?_
    have hb:bt (S (P++(c::D++R))) (P.length:Int)=(c.toNat:Int):=zch P c (D++R)
    rw[hb]
    refine Ev.congr (fun k=>if_pos (by omega)) ?_
    rw[decide_eq_true (show(c.toNat:Int)≤57 by omega)]
    refine Ev.step (fun k=>by simp only[zad.j1];rfl) ?_
    refine Ev.congr (fun k=>if_pos (by first|rfl|trivial)) ?_
    have hw:wrap64 ((P.length:Int)+1)=((P.length+1:Nat):Int):=by rw[w64 (by omega) (by omega)];rfl
    rw[hw]
    refine Ev.congr (fun k=>if_pos (by omega)) ?_
    refine Ev.congr (fun k=>if_pos (by omega)) ?_
    refine Ev.congr (fun k=>if_pos (by rw[zau,hlen];omega)) ?_
    have hx:(S (P++(c::D++R))).extract ((P.length:Nat):Int).toNat (((P.length+1:Nat):Int)).toNat=S [c]:=by
      rw[Int.toNat_natCast,Int.toNat_natCast]
      exact ziy P c (D++R)
    rw[hx]
    have hap:acc.length≤1000000000:=by omega
    refine Ev.congr (fun k=>if_pos (by rw[zau,zau,List.length_singleton];omega)) ?_
    rw[zbY]
    have hwp:wrap64 (p+1)=p+1:=w64 (by omega) (by omega)
    rw[hwp]
    have e1:P++(c::D++R)=(P++[c])++(D++R):=by simp
    have e2:((P++[c]).length:Int)=((P.length+1:Nat):Int):=by simp
    have e3:acc++c::D=(acc++[c])++D:=by simp
    have e4:((P.length+(c::D).length:Nat):Int)=(((P++[c]).length+D.length:Nat):Int):=by simp;omega
    have ih:=zcs (r:=r) dot R D (P++[c]) (acc++[c]) (if dot then p else p+1) (fun x hx=>hD x (by simp[hx])) (by rw[←e1];exact hL) (by simp;omega) (by split<;>omega) (by rw[e2];split<;>omega)
    rw[e1,e3,e4] at h
    rw[e1,←e2]
    have e5:(if dot=true then p else p+((c::D).length:Int))=(if dot=true then(if dot=true then p else p+1) else(if dot=true then p else p+1)+(D.length:Int)):=by
      cases dot<;>simp<;>omega
    rw[e5] at h
    have A:=ih h
    cases dot with
    |true=>exact Ev.congr (fun k=>if_pos rfl) A
    |false=>exact Ev.congr (fun k=>if_neg (by simp)) A
theorem zhD{r:ByteArray×Int×Bool}(P R acc:List UInt8)(p:Int)(hL:(P++46::R).length≤1000000000)
    (h:Ev (fun k=>zad.l0 k (S (P++46::R)) (S acc) p true ((P.length+1:Nat):Int)) r):
    Ev (fun k=>zad.l0 k (S (P++46::R)) (S acc) p false (P.length:Int)) r:=by
  have hlen:(P++46::R).length=P.length+(R.length+1):=by simp
  refine Ev.step (fun k=>by simp only[zad.l0];rfl) ?_
  refine Ev.congr (fun k=>if_pos (by rw[zau,hlen];omega)) ?_
  refine Ev.congr (fun k=>if_pos (by omega)) ?_
  rw[zch]
  refine Ev.congr (fun k=>if_neg (by decide)) ?_
  refine Ev.step (fun k=>by simp only[zad.j1];rfl) ?_
  refine Ev.congr (fun k=>if_neg (by simp)) ?_
  refine Ev.congr (fun k=>if_pos (by first|rfl|trivial)) ?_
  refine Ev.step (fun k=>by simp only[zad.j2];rfl) ?_
  refine Ev.congr (fun k=>if_pos (by first|rfl|trivial)) ?_
  have hw:wrap64 ((P.length:Int)+1)=((P.length+1:Nat):Int):=by rw[w64 (by omega) (by omega)];rfl
  rw[hw]
  exact h
theorem zi9(P:List UInt8)(c:UInt8)(R:List UInt8):rd (toI (P++c::R)) (P.length:Int)=(c.toNat:Int):=by
  rw[←zcS,zd3]
  exact zch P c R
theorem zeU{P acc:List UInt8}{m g:UInt8}{X:List UInt8}{p:Int}(ha:AllD acc)(hl:acc.length≤2000)(hP:P.length≤1000000)(hX:AllD X)(h4:X.length≤4)
    (hp: -5000≤p+(if g=45 then-(val X:Int) else(val X:Int))∧p+(if g=45 then-(val X:Int) else(val X:Int))≤5000): ∀(D pre:List UInt8),X=pre++D→
    Ev (fun k=>zad.l1 k (S (P++m::g::X)) (S acc) p (P.length:Int) (val pre:Int) (toI X) (X.length:Int) (pre.length:Int)) (readR acc (p+(if g=45 then-(val X:Int) else(val X:Int))))
  |[],pre,e=>by
    rw[List.append_nil] at e
    subst e
    have hv:=zb6 hX
    have A:val X<10000:=Nat.lt_of_lt_of_le hv (by have:=Nat.pow_le_pow_right (show 0<10 by decide) h4;omega)
    refine Ev.step (fun k=>by simp only[zad.l1];rfl) ?_
    have hw:wrap64 ((P.length:Int)+1)=((P.length+1:Nat):Int):=by rw[w64 (by omega) (by omega)];rfl
    rw[hw]
    refine Ev.congr (fun k=>if_neg (by omega)) ?_
    refine Ev.congr (fun k=>if_pos (by omega)) ?_
    refine Ev.congr (fun k=>if_pos (by rw[zau];simp;omega)) ?_
    have hb:bt (S (P++m::g::X)) ((P.length+1:Nat):Int)=(g.toNat:Int):=by
      have:=zch (P++[m]) g X
      rw[show(P++[m])++g::X=P++m::g::X by simp,show(P++[m]).length=P.length+1 by simp] at this
      exact this
    rw[hb]
    by_cases c:g=45
    · rw[if_pos c] at hp ⊢
      refine Ev.congr (fun k=>if_pos (by rw[c];rfl)) ?_
      rw[w64 (x:= -(val X:Int)) (by omega) (by omega),w64 (by omega) (by omega)]
      exact zdv ha hl hp
    · rw[if_neg c] at hp ⊢
      refine Ev.congr (fun k=>if_neg (fun h=>c (UInt8.toNat_inj.1 (by have:(45:UInt8).toNat=45:=rfl;omega)))) ?_
      rw[w64 (by omega) (by omega)]
      exact zdv ha hl hp
  |c::D,pre,e=>by
    have hc:=hX c (by rw[e];simp)
    have hpre:AllD pre:=fun x hx=>hX x (by rw[e];simp[hx])
    have hlen:X.length=pre.length+(D.length+1):=by rw[e];simp
    have hv:=zb6 hpre
    have A:val pre<1000:=Nat.lt_of_lt_of_le hv (by have:=Nat.pow_le_pow_right (show 0<10 by decide) (show pre.length≤3 by omega);omega)
    refine Ev.step (fun k=>by simp only[zad.l1];rfl) ?_
    refine Ev.congr (fun k=>if_pos (by omega)) ?_
    refine Ev.congr (fun k=>if_pos (by omega)) ?_
    refine Ev.congr (fun k=>if_pos (by rw[zbH];omega)) ?_
    have hr:rd (toI X) (pre.length:Int)=(c.toNat:Int):=by rw[e];exact zi9 pre c D
    rw[hr]
    refine Ev.congr (fun k=>if_neg (by omega)) ?_
    refine Ev.congr (fun k=>if_neg (by omega)) ?_
    refine Ev.congr (fun k=>if_neg (by omega)) ?_
    have hn:wrap64 (wrap64 (10*(val pre:Int))+((c.toNat:Int)-48)%256)=((val (pre++[c]):Nat):Int):=by
      rw[zbw,w64 (x:=10*(val pre:Int)) (by omega) (by omega),w64 (by omega) (by omega)]
      unfold dig
      omega
    have hi:wrap64 ((pre.length:Int)+1)=((pre++[c]).length:Int):=by rw[w64 (by omega) (by omega)];simp
    rw[hn,hi]
    exact zeU ha hl hP hX h4 hp D (pre++[c]) (by rw[e];simp)
theorem zhE{P acc:List UInt8}{m g:UInt8}{X:List UInt8}{p:Int}(hm:m=101∨m=69)(hg:g=43∨g=45)(ha:AllD acc)(hl:acc.length≤2000)(hP:P.length≤1000000)(hX:AllD X)(h2:2≤X.length)(h4:X.length≤4)(dot:Bool)
    (hp: -5000≤p+(if g=45 then-(val X:Int) else(val X:Int))∧p+(if g=45 then-(val X:Int) else(val X:Int))≤5000):
    Ev (fun k=>zad.l0 k (S (P++m::g::X)) (S acc) p dot (P.length:Int)) (readR acc (p+(if g=45 then-(val X:Int) else(val X:Int)))):=by
  have hlen:(P++m::g::X).length=P.length+(X.length+1+1):=by simp
  have A:(m.toNat:Int)=101∨(m.toNat:Int)=69:=by rcases hm with rfl|rfl;exact .inl rfl;exact .inr rfl
  have B:wrap64 ((P.length:Int)+1)=((P.length+1:Nat):Int):=by rw[w64 (by omega) (by omega)];rfl
  have D:wrap64 ((P.length:Int)+2)=((P.length+2:Nat):Int):=by rw[w64 (by omega) (by omega)];rfl
  have E:wrap64 ((P.length:Int)+4)=((P.length+4:Nat):Int):=by rw[w64 (by omega) (by omega)];rfl
  refine Ev.step (fun k=>by simp only[zad.l0];rfl) ?_
  refine Ev.congr (fun k=>if_pos (by rw[zau,hlen];omega)) ?_
  refine Ev.congr (fun k=>if_pos (by omega)) ?_
  rw[zch]
  refine Ev.congr (fun k=>if_pos (by omega)) ?_
  rw[decide_eq_false (show¬(m.toNat:Int)≤57 by omega)]
  refine Ev.step (fun k=>by simp only[zad.j1];rfl) ?_
  refine Ev.congr (fun k=>if_neg (by simp)) ?_
  refine Ev.congr (fun k=>if_neg (by omega)) ?_
  refine Ev.step (fun k=>by simp only[zad.j2];rfl) ?_
  refine Ev.congr (fun k=>if_neg (by simp)) ?_
  have j4:Ev (fun k=>zad.j4 k (S (P++m::g::X)) (S acc) p (P.length:Int) 0 false) (readR acc (p+(if g=45 then-(val X:Int) else(val X:Int)))):=by
    refine Ev.step (fun k=>by simp only[zad.j4];rfl) ?_
    refine Ev.congr (fun k=>if_neg (by simp)) ?_
    rw[D]
    refine Ev.congr (fun k=>if_pos (by omega)) ?_
    refine Ev.congr (fun k=>if_pos (by rw[zau,hlen];omega)) ?_
    have hx:(S (P++m::g::X)).extract (((P.length+2:Nat):Int)).toNat (S (P++m::g::X)).size=S X:=by
      rw[Int.toNat_natCast,zeu]
      congr 1
      rw[show P++m::g::X=(P++[m,g])++X by simp]
      exact List.drop_left' (by simp)
    rw[hx]
    refine Ev.congr (fun k=>if_pos (by rw[zau];omega)) ?_
    simp only[Option.bind_some]
    rw[zcS,zbH]
    exact zeU ha hl hP hX h4 hp X [] rfl
  have j3:Ev (fun k=>zad.j3 k (S (P++m::g::X)) (S acc) p (P.length:Int) true) (readR acc (p+(if g=45 then-(val X:Int) else(val X:Int)))):=by
    refine Ev.step (fun k=>by simp only[zad.j3];rfl) ?_
    refine Ev.congr (fun k=>if_pos (by first|rfl|trivial)) ?_
    rw[E,B]
    refine Ev.congr (fun k=>if_neg (by rw[zau,hlen];omega)) ?_
    refine Ev.congr (fun k=>if_pos (by omega)) ?_
    refine Ev.congr (fun k=>if_pos (by rw[zau,hlen];omega)) ?_
    have hb:bt (S (P++m::g::X)) ((P.length+1:Nat):Int)=(g.toNat:Int):=by
      have:=zch (P++[m]) g X
      rw[show(P++[m])++g::X=P++m::g::X by simp,show(P++[m]).length=P.length+1 by simp] at this
      exact this
    rw[hb]
    rcases hg with e|e
    · refine Ev.congr (fun k=>if_pos (by rw[e];rfl)) ?_
      exact j4
    · refine Ev.congr (fun k=>if_neg (by rw[e];decide)) ?_
      rw[show((g.toNat:Int)!=45)=false by rw[e];rfl]
      exact j4
  rcases A with e|e
  · exact Ev.congr (fun k=>if_pos e) j3
  · refine Ev.congr (fun k=>if_neg (by omega)) ?_
    rw[e]
    exact j3
theorem zey{n:Nat}(h:n<10):dig (dch n)=n:=by
  unfold dig dch
  rw[if_pos h,UInt8.toNat_ofNat']
  omega
theorem zg4: ∀k n,n<10^(k+1)→val (bF 10 k n)=n
  |0,n,h=>by
    show val ([]++[dch (n%10)])=n
    rw[zbw,za4,zey (Nat.mod_lt _ (by decide))]
    simp at h
    omega
  |k+1,n,h=>by
    unfold bF
    split
    · show val ([]++[dch (n%10)])=n
      rw[zbw,za4,zey (Nat.mod_lt _ (by decide))]
      omega
    · rw[zbw,zg4 k (n / 10) (by rw[Nat.pow_succ] at h;omega),zey (Nat.mod_lt _ (by decide))]
      omega
theorem zja{n:Nat}(h:n<10000):val (bT 10 n)=n:=zg4 63 n (Nat.lt_of_lt_of_le h (by decide))
theorem zdE(n:Nat)(l:List UInt8):val (zsL n++l)=val l:=by
  rw[val_append]
  unfold zsL
  rw[zbW]
  omega
theorem zhF{P acc:List UInt8}{p e:Int}(big:Bool)(ha:AllD acc)(hl:acc.length≤2000)(hP:P.length≤1000000)(he: -5000≤e∧e≤5000)(hp: -5000≤p+e∧p+e≤5000)(dot:Bool):
    Ev (fun k=>zad.l0 k (S (P++powL (eMark big) e 2)) (S acc) p dot (P.length:Int)) (readR acc (p+e)):=by
  obtain⟨m,hm,em⟩: ∃m:UInt8,(m=101∨m=69)∧eMark big=[m]:=by cases big;exact⟨101,.inl rfl,rfl⟩;exact⟨69,.inr rfl,rfl⟩
  obtain⟨g,hg,eg,A⟩: ∃g:UInt8,(g=43∨g=45)∧(if e<0 then [45] else [43])=[g]∧(g=45↔e<0):=by
    by_cases c:e<0
    · exact⟨45,.inr rfl,by rw[if_pos c],⟨fun _=>c,fun _=>rfl⟩⟩
    · exact⟨43,.inl rfl,by rw[if_neg c],⟨fun h=>absurd h (by decide),fun h=>absurd h c⟩⟩
  have hn:e.natAbs<10000:=by omega
  have B:(bT 10 e.natAbs).length≤4:=zdU 10 63 e.natAbs 3 (by omega)
  have hX:AllD (zsL (2-((bT 10 e.natAbs).length:Int)).toNat++bT 10 e.natAbs):=(zcd _).append (zg3 63 _)
  have hv:val (zsL (2-((bT 10 e.natAbs).length:Int)).toNat++bT 10 e.natAbs)=e.natAbs:=by rw[zdE,zja hn]
  have hlen:(zsL (2-((bT 10 e.natAbs).length:Int)).toNat++bT 10 e.natAbs).length=(2-((bT 10 e.natAbs).length:Int)).toNat+(bT 10 e.natAbs).length:=by rw[List.length_append,zbe]
  have hpw:powL (eMark big) e 2=m::g::(zsL (2-((bT 10 e.natAbs).length:Int)).toNat++bT 10 e.natAbs):=by
    unfold powL
    rw[em,eg]
    rfl
  have hval:(if g=45 then-((val (zsL (2-((bT 10 e.natAbs).length:Int)).toNat++bT 10 e.natAbs):Nat):Int) else((val (zsL (2-((bT 10 e.natAbs).length:Int)).toNat++bT 10 e.natAbs):Nat):Int))=e:=by
    rw[hv]
    by_cases c:e<0
    · rw[if_pos (A.2 c)];omega
    · rw[if_neg (fun h=>c (A.1 h))];omega
  have h:=zhE (P:=P) (acc:=acc) (p:=p) hm hg ha hl hP hX (by rw[hlen];omega) (by rw[hlen];omega) dot (by rw[hval];exact hp)
  rw[hval,←hpw] at h
  exact h
theorem zfU{r:ByteArray×Int×Bool}{A B E:List UInt8}(dot:Bool)(hA:AllD A)(hB:AllD B)(hl:(ptL dot A B++E).length≤1000000)
    (h: ∀fl:Bool,Ev (fun k=>zad.l0 k (S (ptL dot A B++E)) (S (A++B)) (A.length:Int) fl ((ptL dot A B).length:Int)) r):
    Ev (fun k=>zad.f k (S (ptL dot A B++E))) r:=by
  unfold zad.f
  show Ev (fun k=>zad.l0 k (S (ptL dot A B++E)) (S []) 0 false ((([]:List UInt8).length:Nat):Int)) r
  unfold ptL at h hl ⊢
  by_cases c:B=[]∧dot=false
  · rw[if_pos c] at h hl ⊢
    have:=h false
    rw[c.1,List.append_nil] at this
    refine zcs (r:=r) false E A [] [] 0 hA (by simp at hl ⊢;omega) (by simp) (by omega) (by simp) ?_
    simpa using this
  · rw[if_neg c] at h hl ⊢
    have h1:=h true
    have e0:(A++46::B)++E=[]++(A++(46::(B++E))):=by simp
    rw[e0] at h1 hl ⊢
    refine zcs (r:=r) false (46::(B++E)) A [] [] 0 hA (by simp at hl ⊢;omega) (by simp) (by omega) (by simp) ?_
    have e1:([]:List UInt8)++(A++46::(B++E))=A++46::(B++E):=rfl
    rw[e1] at h1 hl ⊢
    have e2:((([]:List UInt8).length+A.length:Nat):Int)=(A.length:Int):=by simp
    rw[e2]
    have e3:(if false=true then(0:Int) else 0+(A.length:Int))=(A.length:Int):=by simp
    rw[e3]
    show Ev (fun k=>zad.l0 k (S (A++46::(B++E))) (S A) (A.length:Int) false (A.length:Int)) r
    refine zhD A (B++E) A (A.length:Int) (by omega) ?_
    have e4:A++46::(B++E)=(A++[46])++(B++E):=by simp
    have e5:((A.length+1:Nat):Int)=((A++[46]).length:Int):=by simp
    rw[e4] at h1 hl ⊢
    rw[e5]
    refine zcs (r:=r) true E B (A++[46]) A (A.length:Int) hB (by omega) (by simp) (by omega) (by simp;omega) ?_
    have e6:((A++46::B).length:Int)=(((A++[46]).length+B.length:Nat):Int):=by simp;omega
    rw[e6] at h1
    exact h1
theorem zhG{l:List UInt8}(h:AllD l)(hn:l≠[])(hl:l.length≤2000){e:Int}(he: -5000≤e∧e≤4999)(dot big:Bool):
    Ev (fun k=>zad.f k (S (sciL dot big l e))) (readR l (1+e)):=by
  have hfit:=(zex (l:=l) h.asc (by omega) dot big e).2
  have h1:(l.take 1).length=1:=by
    rw[List.length_take]
    have:=List.length_pos_iff.2 hn
    omega
  have hp:=zbV dot (l.take 1) (l.drop 1)
  unfold sciL at hfit ⊢
  refine zfU dot (h.take 1) (h.drop 1) (by omega) (fun fl=>?_)
  rw[List.take_append_drop,h1]
  exact zhF big h hl (by rw[List.length_append] at hfit;omega) (by omega) (by omega) fl
theorem ziz(wide:Bool)(a:Nat)(ha:a<18446744073709551616): ∃p:Nat,za8.f (a:Int) (szB wide)=some (p:Int)∧p<ii wide:=by
  obtain⟨j,hj,ht,hw⟩:=zfb wide
  have htt:=zee wide
  unfold za8.f
  rw[hw,zdb _ hj,zcK _ _ (by omega) ha,←ht,if_pos (by omega)]
  have hb:=Nat.mod_lt a htt.1
  generalize a%tt wide=q at*
  cases wide
  · have A:q<2147483648:=hb
    rw[if_pos (show szB false=32 from rfl)]
    show∃p:Nat,_∧p<2139095040
    by_cases c:(q:Int)≥2139095040
    · refine⟨q-2139095040,?_,by omega⟩
      rw[if_pos c,show((q:Int)-2139095040)=((q-2139095040:Nat):Int) by omega,u64N _ (by omega)]
    · exact⟨q,by rw[if_neg c],by omega⟩
  · have A:q<9223372036854775808:=hb
    rw[if_neg (show¬szB true=32 by decide)]
    show∃p:Nat,_∧p<9218868437227405312
    by_cases c:(q:Int)≥9218868437227405312
    · refine⟨q-9218868437227405312,?_,by omega⟩
      rw[if_pos c,show((q:Int)-9218868437227405312)=((q-9218868437227405312:Nat):Int) by omega,u64N _ (by omega)]
    · exact⟨q,by rw[if_neg c],by omega⟩
theorem zg5{a:List UInt8}{p:Int}(ha:InForm a p)(n:Nat):(roundN a p n).1.length≤max n 1∧InForm (roundN a p n).1 (roundN a p n).2:=by
  unfold roundN
  rw[if_neg (by omega),Int.toNat_natCast]
  by_cases c:(a.length:Int)≤n
  · rw[if_pos c];exact⟨by show a.length≤_;omega,ha⟩
  · rw[if_neg c]
    have hq:=zb6 (ha.1.take n)
    have hql:(a.take n).length=n:=by rw[List.length_take];omega
    rw[hql] at hq
    by_cases d:downP a n
    · rw[if_pos d]
      exact⟨Nat.le_trans (zbC hq _).1 (by omega),zba _ _⟩
    · rw[if_neg d]
      refine⟨?_,zba _ _⟩
      by_cases e:val (a.take n)+1<10^n
      · exact Nat.le_trans (zbC e _).1 (by omega)
      · have A:val (a.take n)+1=1*10^n:=by omega
        have hs:=zb7 1 n (p-n+n)
        rw[show p-(n:Int)+n-n=p-n by omega] at hs
        rw[A,hs]
        exact Nat.le_trans (zbC (m:=1) (by omega) _).1 (by omega)
theorem zg6{v:List UInt8×Int}{n:Int}(hne:(roundN v.1 v.2 (v.2+n)).1≠[]):((roundN v.1 v.2 (v.2+n)).1.length:Int)≤(roundN v.1 v.2 (v.2+n)).2+n:=by
  have low: ∀u:Nat,(decOf u (v.2-(v.2+n))).1≠[]→((decOf u (v.2-(v.2+n))).1.length:Int)≤(decOf u (v.2-(v.2+n))).2+n:=by
    intro u hu
    have hz:u≠0:=fun e=>hu (by rw[e,zb1])
    have:=zcw hz (v.2-(v.2+n))
    omega
  unfold roundN at hne ⊢
  by_cases c1:v.2+n<0
  · rw[if_pos c1] at hne
    exact absurd rfl hne
  · rw[if_neg c1] at hne ⊢
    by_cases c2:(v.1.length:Int)≤v.2+n
    · rw[if_pos c2]
      exact c2
    · rw[if_neg c2] at hne ⊢
      by_cases c3:downP v.1 (v.2+n).toNat
      · rw[if_pos c3] at hne ⊢
        exact low _ hne
      · rw[if_neg c3] at hne ⊢
        exact low _ hne
end Go.Proofs.YtecpgdfnamkfdaaGreatDoor.Pure
end
section
namespace Go.Proofs.YtecpgdfnamkfdaaGreatDoor.Fn
open Go.RowKit Go.Proofs.YtecpgdfnamkfdaaGreatDoorW.PrintWords Go.Proofs.YtecpgdfnamkfdaaGreatDoorW.PrintLast Go.Proofs.YtecpgdfnamkfdaaGreatDoorW.PrintMore
attribute [local go_sem] fnW_0 fnW_1 fnW_2 fnW_3 fnW_4 fnW_5 fnW_guard fnW_eql zaF zaG zaK zaL
set_option linter.unusedVariables false
set_option linter.unusedSimpArgs false
attribute [local go_sem high] eqA42
theorem zcn{P:Program}{ops:Array Oper}{rest:List Oper}{o:Oper}{a:Act}{Q:Exit→Act→World→Prop}{W:World}(hgd:o.guard=none){t:TypeId}{x y:Operand}(ho:o.op= .store t x y)(hN:o.dst=none){g:Nat}{v0 v1 v2 v3 v4 v5 v6 v7:Value}(hx:a.eval x= .pointer (some ⟨g,0,none⟩))(hy:a.eval y= .agg #[v0,v1,v2,v3,v4,v5,v6,v7]){old:Array Value}(hk:zaa (W.heap[g]? =some (.cells old t (0,0))))(hi:(P.info? t).map (·.size)=some 8)(hold:old.size=8)(h1:(v0.oneCell'&&v1.oneCell'&&v2.oneCell'&&v3.oneCell'&&v4.oneCell'&&v5.oneCell'&&v6.oneCell'&&v7.oneCell')=true){b:Nat}{w0:World}(hb:zaa (Below b w0 W))(hg:zaa (b≤g))
    (h: ∀w1,zaa (w1.heap[g]? =some (.cells #[v0,v1,v2,v3,v4,v5,v6,v7] t (0,0)))→(∀g',g'≠g→w1.heap[g']? =W.heap[g']?)→zaa (Below b w0 w1)→wpList P ops Q rest a w1):wpList P ops Q (o::rest) a W:=by
  simp only[Bool.and_eq_true] at h1
  refine wpList_store_row hgd t x y ho g _ hx hy t old hk.out hi hold (by simp[h1]) ?_
  rw[hN]
  refine h _ ⟨setRow_heap _ _ _ _ _ _ hk.out⟩ (fun g' hne=>?_) ⟨below_setRow hb.out hg.out _⟩
  simp only[World.setRow]
  rw[Array.getElem?_modify,if_neg (fun e=>hne e.symm)]
mutual
def platenlaw06_FloatsExact.j0:Nat→Int→ByteArray→Bool→ByteArray→Int→Bool→Bool→Bool→Bool→Bool→Int→Int→Int→Option (Bool)
 |0,_,_,_,_,_,_,_,_,_,_,_,_,_=>none
 |k+1,x1,Z,aa,D,E,I,J,K,M,O,U,X,Y=>if aa=true then(some false) else((zad.f k Z).bind fun A=>((za2.f k D E (wrap64 (x1+1))).bind fun B=>(platenlaw06_FloatsExact.l0 k x1 Z A.2.2 B.2.2 0 D E I J K M O U X Y A.1 A.2.1 B.1 B.2.1)))
def platenlaw06_FloatsExact.j2:Nat→Int→ByteArray→Bool→Int→Int→ByteArray→Int→Bool→Bool→Bool→Bool→Bool→Int→Int→Int→ByteArray→Int→ByteArray→Int→Option (Bool)
 |0,_,_,_,_,_,_,_,_,_,_,_,_,_,_,_,_,_,_,_=>none
 |k+1,x1,ab,ac,ad,ae,J,K,M,O,U,X,Y,Z,aa,A,B,D,E,I=>if A=102 then(platenlaw06_FloatsExact.j3 k x1 ab ac ad ae true J K B D E I) else(platenlaw06_FloatsExact.j3 k x1 ab ac ad ae (A==70) J K B D E I)
def platenlaw06_FloatsExact.j3:Nat→Int→ByteArray→Bool→Int→Int→Bool→ByteArray→Int→ByteArray→Int→ByteArray→Int→Option (Bool)
 |0,_,_,_,_,_,_,_,_,_,_,_,_=>none
 |k+1,x1,J,K,X,U,af,M,O,B,D,E,I=>if af=true then((zaQ.f k M O x1).bind fun A=>(if x1>0 then(if(J.size:Int)=(wrap64 ((wrap64 (U+1))+x1)) then(if x1=0 then(if(J.size:Int)=U then(if K=true then(if A.2.2=0 then(if(B.toList==A.1.toList&&(D==A.2.1))=true then((zaH.f k).bind fun Y=>(some Y)) else(some false)) else(some false)) else(some false)) else(some false)) else(if K=true then(if A.2.2=0 then(if(B.toList==A.1.toList&&(D==A.2.1))=true then((zaH.f k).bind fun Z=>(some Z)) else(some false)) else(some false)) else(some false))) else(some false)) else(if x1=0 then(if(J.size:Int)=U then(if K=true then(if A.2.2=0 then(if(B.toList==A.1.toList&&(D==A.2.1))=true then((zaH.f k).bind fun aa=>(some aa)) else(some false)) else(some false)) else(some false)) else(some false)) else(if K=true then(if A.2.2=0 then(if(B.toList==A.1.toList&&(D==A.2.1))=true then((zaH.f k).bind fun ab=>(some ab)) else(some false)) else(some false)) else(some false))))) else(if U=1 then(if x1>0 then(if(J.size:Int)≤(wrap64 (2+x1)) then(some false) else(if 0≤(wrap64 (2+x1)) then(if(wrap64 (2+x1))<(J.size:Int) then(if(bt J (wrap64 (2+x1)))=101 then(if K=true then(if X=0 then(if(B.toList==E.toList&&(D==I))=true then((zaH.f k).bind fun ac=>(some ac)) else(some false)) else(some false)) else(some false)) else(if(bt J (wrap64 (2+x1)))=69 then(if K=true then(if X=0 then(if(B.toList==E.toList&&(D==I))=true then((zaH.f k).bind fun ad=>(some ad)) else(some false)) else(some false)) else(some false)) else(some false))) else(none)) else(none))) else(if K=true then(if X=0 then(if(B.toList==E.toList&&(D==I))=true then((zaH.f k).bind fun ae=>(some ae)) else(some false)) else(some false)) else(some false))) else(some false))
def platenlaw06_FloatsExact.l0:Nat→Int→ByteArray→Bool→Int→Int→ByteArray→Int→Bool→Bool→Bool→Bool→Bool→Int→Int→Int→ByteArray→Int→ByteArray→Int→Option (Bool)
 |0,_,_,_,_,_,_,_,_,_,_,_,_,_,_,_,_,_,_,_=>none
 |k+1,x1,ac,ad,ae,ab,Z,aa,A,B,D,E,I,J,K,M,O,U,X,Y=>if ab<(ac.size:Int) then(if 0≤ab then(if(bt ac ab)=46 then(platenlaw06_FloatsExact.j2 k x1 ac ad ae ab Z aa A B D E I J K M O U X Y) else(if(bt ac ab)=101 then(platenlaw06_FloatsExact.j2 k x1 ac ad ae ab Z aa A B D E I J K M O U X Y) else(if(bt ac ab)=69 then(platenlaw06_FloatsExact.j2 k x1 ac ad ae ab Z aa A B D E I J K M O U X Y) else(platenlaw06_FloatsExact.l0 k x1 ac ad ae (wrap64 (ab+1)) Z aa A B D E I J K M O U X Y)))) else(none)) else(platenlaw06_FloatsExact.j2 k x1 ac ad ae ab Z aa A B D E I J K M O U X Y)
end
def platenlaw06_FloatsExact.f(k:Nat)(M:Int)(O:Bool)(a1:Int)(a2:Int):Option (Bool):=(zbq.f O).bind fun I=>((za8.f M I).bind fun K=>((zbj.f K I).bind fun J=>((zaj.f k J.2.1 J.2.2.1).bind fun D=>((zax.f 101).bind fun B=>((zbd.f B.1 B.2.1 B.2.2.1 B.2.2.2.1 B.2.2.2.2.1 B.2.2.2.2.2.1 B.2.2.2.2.2.2.1 B.2.2.2.2.2.2.2 a2 (⟨#[101,102,69,70]⟩:ByteArray)).bind fun A=>((zaf.f k K I A.1 A.2.1 A.2.2.1 A.2.2.2.1 A.2.2.2.2.1 A.2.2.2.2.2.1 (mx 0 (mn a1 400)) A.2.2.2.2.2.2.2).bind fun E=>(if E.2=true then(if D.2.2=0 then(platenlaw06_FloatsExact.j0 k (mx 0 (mn a1 400)) E.1 (E.1.toList==([]:List UInt8)) D.1 D.2.1 A.1 A.2.1 A.2.2.1 A.2.2.2.1 A.2.2.2.2.1 A.2.2.2.2.2.1 (mx 0 (mn a1 400)) A.2.2.2.2.2.2.2) else(platenlaw06_FloatsExact.j0 k (mx 0 (mn a1 400)) E.1 true D.1 D.2.1 A.1 A.2.1 A.2.2.1 A.2.2.2.1 A.2.2.2.2.1 A.2.2.2.2.2.1 (mx 0 (mn a1 400)) A.2.2.2.2.2.2.2)) else(platenlaw06_FloatsExact.j0 k (mx 0 (mn a1 400)) E.1 true D.1 D.2.1 A.1 A.2.1 A.2.2.1 A.2.2.2.1 A.2.2.2.2.1 A.2.2.2.2.2.1 (mx 0 (mn a1 400)) A.2.2.2.2.2.2.2))))))))
set_option maxHeartbeats 8000000 in
set_option maxRecDepth 100000 in
theorem platenlaw06_FloatsExact.calls(k:Nat)(ay:Int)(az:Bool)(a1:Int)(a2:Int)(r:Bool)(w:World)(h:platenlaw06_FloatsExact.f k ay az a1 a2=some r):
  Calls Tryz.prog 10 #[.agg #[.int .u64 ay,.bool az],.int .i64 a1,.int .u64 a2] w fun e w'=>e= .returned (.bool r)∧Below w.heap.size w w':=by
 have qy:=Tryz.underlying24
 have qz:=Tryz.underlying42
 have qA:=Tryz.underlying26
 have HB:=zaa.mk (Below.refl w.heap.size w)
 have H:((zbq.f az).bind fun bg=>((za8.f ay bg).bind fun b8=>((zbj.f b8 bg).bind fun cR=>((zaj.f k cR.2.1 cR.2.2.1).bind fun be=>((zax.f 101).bind fun a4=>((zbd.f a4.1 a4.2.1 a4.2.2.1 a4.2.2.2.1 a4.2.2.2.2.1 a4.2.2.2.2.2.1 a4.2.2.2.2.2.2.1 a4.2.2.2.2.2.2.2 a2 (⟨#[101,102,69,70]⟩:ByteArray)).bind fun aG=>((zaf.f k b8 bg aG.1 aG.2.1 aG.2.2.1 aG.2.2.2.1 aG.2.2.2.2.1 aG.2.2.2.2.2.1 (mx 0 (mn a1 400)) aG.2.2.2.2.2.2.2).bind fun bh=>(if bh.2=true then(if be.2.2=0 then(platenlaw06_FloatsExact.j0 k (mx 0 (mn a1 400)) bh.1 (bh.1.toList==([]:List UInt8)) be.1 be.2.1 aG.1 aG.2.1 aG.2.2.1 aG.2.2.2.1 aG.2.2.2.2.1 aG.2.2.2.2.2.1 (mx 0 (mn a1 400)) aG.2.2.2.2.2.2.2) else(platenlaw06_FloatsExact.j0 k (mx 0 (mn a1 400)) bh.1 true be.1 be.2.1 aG.1 aG.2.1 aG.2.2.1 aG.2.2.2.1 aG.2.2.2.2.1 aG.2.2.2.2.2.1 (mx 0 (mn a1 400)) aG.2.2.2.2.2.2.2)) else(platenlaw06_FloatsExact.j0 k (mx 0 (mn a1 400)) bh.1 true be.1 be.2.1 aG.1 aG.2.1 aG.2.2.1 aG.2.2.2.1 aG.2.2.2.2.1 aG.2.2.2.2.2.1 (mx 0 (mn a1 400)) aG.2.2.2.2.2.2.2)))))))))=some r:=h
 clear h
 replace H:=bs H
 obtain⟨bg,A4,H⟩:=H
 replace H:=bs H
 obtain⟨b8,A5,H⟩:=H
 replace H:=bs H
 obtain⟨⟨iC,ed,ee,iD⟩,A6,H⟩:=H
 dsimp only at H
 replace H:=bs H
 obtain⟨⟨ao,ap,ef⟩,A7,H⟩:=H
 dsimp only at H
 obtain⟨cN,aK⟩:=ex (mn a1 400)
 (first|rw[aK] at H|simp only[aK] at H)
 (try rw[aK] at A4)
 (try rw[aK] at A5)
 (try rw[aK] at A6)
 (try rw[aK] at A7)
 (try(have et:cN≤400:=by(rw[←aK];unfold mn;(repeat' split)<;>omega)))
 (try(have eu:cN≤64:=by omega))
 have ev:(if 400<a1 then 400 else a1)=cN:=aK
 obtain⟨aL,an⟩:=ex (mx 0 (cN))
 (first|rw[an] at H|simp only[an] at H)
 (try rw[an] at A4)
 (try rw[an] at A5)
 (try rw[an] at A6)
 (try rw[an] at A7)
 have ew:(if 0<(cN) then(cN) else 0)=aL:=an
 replace H:=bs H
 obtain⟨⟨eg,eh,ei,cS,cT,cV,cW,cX⟩,o6,H⟩:=H
 dsimp only at H
 replace H:=bs H
 obtain⟨⟨aA,aB,aC,aD,aE,aF,ey,av⟩,o7,H⟩:=H
 dsimp only at H
 replace H:=bs H
 obtain⟨⟨D,cY⟩,o8,H⟩:=H
 dsimp only at H
 have cZ:=zaa.mk H
 clear H
 go_enter Tryz.func10,Tryz.ntmps10
 go_upto_region 9 with(first|((with_reducible refine zah (N:=3) rfl ?_);(try(refine zbt (by rfl) ?_;dsimp only));refine zag rfl (N:=3) rfl (cs:=#[.int .u64 ay,.bool az]) (t:=24) gz ?_;intro ai hg bP hbox hb;have o9:=gN bz hg;have al:=zaa.mk hbox;replace HB:=bN bz hb;clear hb hbox hg;obtain⟨bi,bj,bl,bm⟩:=cz2 (W:=bP) al)|((with_reducible refine zac (f:=21) rfl ?_);refine zbK (some 25) rfl rfl Tryz.func21 (by kernel_rfl) rfl #[.bool az] rfl lz ?_;(with_reducible refine(zbq.calls az bg _ A4.out).mono ?_);rintro e w' ⟨rfl,⟨nd,rfl⟩⟩;refine⟨_,rfl,?_⟩;(try(rw[zbO bP];generalize cw:World.drewN bP _=bP;have c5:zaa (bP.heap[ai]? =some (.cells #[.int .u64 ay,.bool az] 24 (0,0))):=⟨by rw[←cw];exact bk⟩;have c6:zaa (Below w.heap.size w bP):=⟨by rw[←cw];exact bz⟩;clear al HB cw;have al:=c5;have HB:=c6;clear c5 c6;obtain⟨eA,eB,eC,eD⟩:=cz2 (W:=bP) al)))|((with_reducible refine zac (f:=28) rfl ?_);refine zbK (some 29) rfl rfl Tryz.func28 (by kernel_rfl) rfl #[.int .u64 ay,.int .i64 bg] rfl lz ?_;(with_reducible refine(za8.calls ay bg b8 _ A5.out).mono ?_);rintro e w' ⟨rfl,⟨nd,rfl⟩⟩;refine⟨_,rfl,?_⟩;(try(rw[zbO bP];generalize cw:World.drewN bP _=bP;have c5:zaa (bP.heap[ai]? =some (.cells #[.int .u64 ay,.bool az] 24 (0,0))):=⟨by rw[←cw];exact bk⟩;have c6:zaa (Below w.heap.size w bP):=⟨by rw[←cw];exact bz⟩;clear al HB cw;have al:=c5;have HB:=c6;clear c5 c6;obtain⟨eE,eG,eH,eI⟩:=cz2 (W:=bP) al)))|((with_reducible refine zac (f:=24) rfl ?_);refine gB Tryz.func24 (zbj.calls b8 bg iC ed ee iD _ A6.out) ?_;intro qI hb;replace al:=kN (g:=ai) (cs:=#[.int .u64 ay,.bool az]) hb bk;replace HB:=bN bz hb;(try clear hb);(try clear aV);(try clear hk);(try clear hi))|((with_reducible refine zac (f:=29) rfl ?_);refine gB Tryz.func29 (zaj.calls k ed ee ao ap ef _ A7.out) ?_;intro qJ hb;replace al:=kN (g:=ai) (cs:=#[.int .u64 ay,.bool az]) hb bk;replace HB:=bN bz hb;(try clear hb);(try clear aV);(try clear hk);(try clear hi))|((with_reducible refine zah (N:=13) rfl ?_);(try(refine zbt (by rfl) ?_;dsimp only));refine zag rfl (N:=13) rfl (cs:=#[.string (⟨#[]⟩:ByteArray),.int .i64 0]) (t:=42) gz ?_;intro ax hg pa hbox hb;have pb:=gN bz hg;have aN:=lN (g:=ai) (cs:=#[.int .u64 ay,.bool az]) hg bk;have aO:=rN (g:=ai) (cs:=#[.int .u64 ay,.bool az]) hg bk;replace al:=kN (g:=ai) (cs:=#[.int .u64 ay,.bool az]) hb bk;have ae:=zaa.mk hbox;replace HB:=bN bz hb;clear hb hbox hg;have pc:=aO.out;have pd:=aN.out;obtain⟨bn,bo,bp,bq⟩:=cz2 (W:=pa) ae)|((with_reducible refine zac (f:=30) rfl ?_);refine gB Tryz.func30 (zax.calls 101 eg eh ei cS cT cV cW cX _ o6.out) ?_;intro qK hb;replace al:=kN (g:=ai) (cs:=#[.int .u64 ay,.bool az]) hb bk;replace ae:=kN (g:=ax) (cs:=#[.string ao,.int .i64 ap]) hb bk;replace HB:=bN bz hb;(try clear hb);(try clear aV);(try clear hk);(try clear hi))|((with_reducible refine zac (f:=22) rfl ?_);refine gB Tryz.func22 (zbd.calls eg eh ei cS cT cV cW cX a2 (⟨#[101,102,69,70]⟩:ByteArray) aA aB aC aD aE aF ey av _ o7.out) ?_;intro qL hb;replace al:=kN (g:=ai) (cs:=#[.int .u64 ay,.bool az]) hb bk;replace ae:=kN (g:=ax) (cs:=#[.string ao,.int .i64 ap]) hb bk;replace HB:=bN bz hb;(try clear hb);(try clear aV);(try clear hk);(try clear hi))|((with_reducible refine zah (N:=15) rfl ?_);(try(refine zbt (by rfl) ?_;dsimp only));refine zag rfl (N:=15) rfl (cs:=#[.bool false,.bool false,.bool false,.bool false,.bool false,.int .i64 0,.int .i64 0,.int .i32 0]) (t:=26) gz ?_;intro ar hg pe hbox hb;have dm:=gN bz hg;have aX:=lN (g:=ai) (cs:=#[.int .u64 ay,.bool az]) hg bk;have a5:=rN (g:=ai) (cs:=#[.int .u64 ay,.bool az]) hg bk;have aw:=lN (g:=ax) (cs:=#[.string ao,.int .i64 ap]) hg bk;have aH:=rN (g:=ax) (cs:=#[.string ao,.int .i64 ap]) hg bk;replace al:=kN (g:=ai) (cs:=#[.int .u64 ay,.bool az]) hb bk;replace ae:=kN (g:=ax) (cs:=#[.string ao,.int .i64 ap]) hb bk;have am:=zaa.mk hbox;replace HB:=bN bz hb;clear hb hbox hg;have pf:=a5.out;have pg:=aX.out;have pi:=aH.out;have pj:=aw.out;obtain⟨br,bu,bv,bw,bA,bB,bC,bD,bE,bG,bH,bI,bJ,bK,bL,bM⟩:=cz8 (W:=pe) am)|((with_reducible refine zb0 (t:=26) (p:=15) rfl ?_);refine zcn rfl rfl rfl rfl rfl am (by kernel_rfl) rfl rfl HB dm ?_;intro eJ hk_ ho_ hb_;replace al:=zaa.mk ((ho_ ai aX.out).trans al.out);replace ae:=zaa.mk ((ho_ ax aw.out).trans ae.out);replace am:=hk_;replace HB:=hb_;clear hk_ ho_ hb_;obtain⟨eK,eL,eM,eN,eO,eP,eQ,eR,eS,eU,eV,eW,eX,eY,eZ,e0⟩:=cz8 (W:=eJ) am)|((with_reducible refine zac (f:=25) rfl ?_);refine gB Tryz.func25 (zaf.calls k b8 bg aA aB aC aD aE aF aL av D cY _ o8.out) ?_ (hargs:=by(try simp only[List.map_toArray,List.map_cons,List.map_nil]);first|done|(simp only[an];rfl)|rfl|(simp only[List.length_drop,List.length_take];rfl));intro qM hb;replace al:=kN (g:=ai) (cs:=#[.int .u64 ay,.bool az]) hb bk;replace ae:=kN (g:=ax) (cs:=#[.string ao,.int .i64 ap]) hb bk;replace am:=kN (g:=ar) (cs:=#[.bool aA,.bool aB,.bool aC,.bool aD,.bool aE,.int .i64 aF,.int .i64 aL,.int .i32 av]) hb bk;replace HB:=bN bz hb;(try clear hb);(try clear aV);(try clear hk);(try clear hi)))
 (try simp only[Act.put,List.setIfInBounds_toArray,List.set_cons_zero,List.set_cons_succ])
 go_cut [68] (fun pk wc=> ∃(kq:Nat) (bR:Bool),pk= .bool bR∧zaa (platenlaw06_FloatsExact.j0 kq aL D bR ao ap aA aB aC aD aE aF aL av=some r)∧zaa (kq≤k)∧zaa (wc.heap[ai]? =some (.cells #[.int .u64 ay,.bool az] 24 (0,0)))∧zaa (wc.heap[ax]? =some (.cells #[.string ao,.int .i64 ap] 42 (0,0)))∧zaa (wc.heap[ar]? =some (.cells #[.bool aA,.bool aB,.bool aC,.bool aD,.bool aE,.int .i64 aF,.int .i64 aL,.int .i32 av] 26 (0,0)))∧zaa (Below w.heap.size w wc))
 case first=>
  have H:=cZ.out
  clear cZ
  by_cases dn:cY=true
  ·subst dn
   replace H:=hT H
   by_cases c7:ef=0
   ·replace H:=hE H c7
    obtain⟨cx,cy⟩:=eT c7
    clear c7
    try first|rw[cx]|rw[cy]
    have H':=zaa.mk H
    clear H
    go_wp2
    go_meet
    case rel=>exact⟨_,((D.toList==([]:List UInt8))),rz,H',⟨by first|omega|exact Nat.le_refl _⟩,⟨bk⟩,⟨bk⟩,⟨bk⟩,⟨bz⟩⟩
   replace H:=hN H c7
   obtain⟨cx,cy⟩:=eF c7
   try first|rw[cx]|rw[cy]
   have H':=zaa.mk H
   clear H
   go_wp2
   go_meet
   case rel=>exact⟨_,(true),rz,H',⟨by first|omega|exact Nat.le_refl _⟩,⟨bk⟩,⟨bk⟩,⟨bk⟩,⟨bz⟩⟩
  replace dn:=Bool.eq_false_iff.mpr dn
  subst dn
  replace H:=hF H
  have H':=zaa.mk H
  clear H
  go_wp2
  go_meet
  case rel=>exact⟨_,(true),rz,H',⟨by first|omega|exact Nat.le_refl _⟩,⟨bk⟩,⟨bk⟩,⟨bk⟩,⟨bz⟩⟩
 case rest=>
  try clear ew
  try clear ev
  try clear eu
  try clear et
  clear cZ
  try clear bi bj bl bm
  try clear bn bo bp bq
  try clear br bu bv bw bA bB bC bD bE bG bH bI bJ bK bL bM
  obtain⟨kq,bR,rfl,HA,bQ,al,ae,am,HB⟩:=hcut
  cases kq with
  |zero=>exact absurd HA.out (by simp[platenlaw06_FloatsExact.j0])
  |succ cf=>
   have H:=HA.out
   clear HA
   simp only[platenlaw06_FloatsExact.j0] at H
   by_cases cz:bR=true
   ·subst cz
    replace H:=hT H
    obtain rfl:=Option.some.inj H
    go_wp2
    go_ret
    exact⟨by first|exact ez|(simp only[←aK,←an];exact ez),bz⟩
   replace cz:=Bool.eq_false_iff.mpr cz
   subst cz
   replace H:=hF H
   replace H:=bs H
   obtain⟨⟨A,B,aW⟩,pm,H⟩:=H
   dsimp only at H
   replace H:=bs H
   obtain⟨⟨af,ag,bf⟩,pn,H⟩:=H
   dsimp only at H
   have c8:=zaa.mk H
   clear H
   go_upto_block 0 with(first|((with_reducible refine zac (f:=31) rfl ?_);refine gB Tryz.func31 (zad.calls cf D A B aW _ pm.out) ?_;intro qN hb;replace al:=kN (g:=ai) (cs:=#[.int .u64 ay,.bool az]) hb bk;replace ae:=kN (g:=ax) (cs:=#[.string ao,.int .i64 ap]) hb bk;replace am:=kN (g:=ar) (cs:=#[.bool aA,.bool aB,.bool aC,.bool aD,.bool aE,.int .i64 aF,.int .i64 aL,.int .i32 av]) hb bk;replace HB:=bN bz hb;(try clear hb);(try clear aV);(try clear hk);(try clear hi))|((with_reducible refine zah (N:=18) rfl ?_);(try(refine zbt (by rfl) ?_;dsimp only));refine zag rfl (N:=18) rfl (cs:=#[.string (⟨#[]⟩:ByteArray),.int .i64 0]) (t:=42) gz ?_;intro aM hg iE hbox hb;have jK:=gN bz hg;have aI:=lN (g:=ai) (cs:=#[.int .u64 ay,.bool az]) hg bk;have aJ:=rN (g:=ai) (cs:=#[.int .u64 ay,.bool az]) hg bk;have O:=lN (g:=ax) (cs:=#[.string ao,.int .i64 ap]) hg bk;have U:=rN (g:=ax) (cs:=#[.string ao,.int .i64 ap]) hg bk;have aj:=lN (g:=ar) (cs:=#[.bool aA,.bool aB,.bool aC,.bool aD,.bool aE,.int .i64 aF,.int .i64 aL,.int .i32 av]) hg bk;have ak:=rN (g:=ar) (cs:=#[.bool aA,.bool aB,.bool aC,.bool aD,.bool aE,.int .i64 aF,.int .i64 aL,.int .i32 av]) hg bk;replace al:=kN (g:=ai) (cs:=#[.int .u64 ay,.bool az]) hb bk;replace ae:=kN (g:=ax) (cs:=#[.string ao,.int .i64 ap]) hb bk;replace am:=kN (g:=ar) (cs:=#[.bool aA,.bool aB,.bool aC,.bool aD,.bool aE,.int .i64 aF,.int .i64 aL,.int .i32 av]) hb bk;have ab:=zaa.mk hbox;replace HB:=bN bz hb;clear hb hbox hg;have po:=aJ.out;have pp:=aI.out;have pq:=U.out;have pr:=O.out;have pt:=ak.out;have pu:=aj.out;obtain⟨bS,bU,bV,bW⟩:=cz2 (W:=iE) ab;have pv:=aO.out;have pw:=aN.out;have px:=aw.out;have py:=aH.out;obtain⟨bX,bY,bZ,b0⟩:=cz2 (W:=iE) ae)|((with_reducible refine zac (f:=32) rfl ?_);refine gB Tryz.func32 (za2.calls cf ao ap (wrap64 (aL+1)) af ag bf _ pn.out) ?_ (hargs:=by(try simp only[List.map_toArray,List.map_cons,List.map_nil]);first|done|(simp only[an];rfl)|rfl|(simp only[List.length_drop,List.length_take];rfl));intro qO hb;replace al:=kN (g:=ai) (cs:=#[.int .u64 ay,.bool az]) hb bk;replace ae:=kN (g:=ax) (cs:=#[.string ao,.int .i64 ap]) hb bk;replace am:=kN (g:=ar) (cs:=#[.bool aA,.bool aB,.bool aC,.bool aD,.bool aE,.int .i64 aF,.int .i64 aL,.int .i32 av]) hb bk;replace ab:=kN (g:=aM) (cs:=#[.string A,.int .i64 B]) hb bk;replace HB:=bN bz hb;(try clear hb);(try clear aV);(try clear hk);(try clear hi))|((with_reducible refine zah (N:=20) rfl ?_);(try(refine zbt (by rfl) ?_;dsimp only));refine zag rfl (N:=20) rfl (cs:=#[.string (⟨#[]⟩:ByteArray),.int .i64 0]) (t:=42) gz ?_;intro aP hg pA hbox hb;have jL:=gN bz hg;have X:=lN (g:=ai) (cs:=#[.int .u64 ay,.bool az]) hg bk;have Y:=rN (g:=ai) (cs:=#[.int .u64 ay,.bool az]) hg bk;have Z:=lN (g:=ax) (cs:=#[.string ao,.int .i64 ap]) hg bk;have aa:=rN (g:=ax) (cs:=#[.string ao,.int .i64 ap]) hg bk;have E:=lN (g:=ar) (cs:=#[.bool aA,.bool aB,.bool aC,.bool aD,.bool aE,.int .i64 aF,.int .i64 aL,.int .i32 av]) hg bk;have I:=rN (g:=ar) (cs:=#[.bool aA,.bool aB,.bool aC,.bool aD,.bool aE,.int .i64 aF,.int .i64 aL,.int .i32 av]) hg bk;have J:=lN (g:=aM) (cs:=#[.string A,.int .i64 B]) hg bk;have K:=rN (g:=aM) (cs:=#[.string A,.int .i64 B]) hg bk;replace al:=kN (g:=ai) (cs:=#[.int .u64 ay,.bool az]) hb bk;replace ae:=kN (g:=ax) (cs:=#[.string ao,.int .i64 ap]) hb bk;replace am:=kN (g:=ar) (cs:=#[.bool aA,.bool aB,.bool aC,.bool aD,.bool aE,.int .i64 aF,.int .i64 aL,.int .i32 av]) hb bk;replace ab:=kN (g:=aM) (cs:=#[.string A,.int .i64 B]) hb bk;have M:=zaa.mk hbox;replace HB:=bN bz hb;clear hb hbox hg;have pB:=Y.out;have pC:=X.out;have pD:=aa.out;have pE:=Z.out;have pF:=I.out;have pG:=E.out;have pH:=K.out;have pI:=J.out;obtain⟨b1,b2,b3,b4⟩:=cz2 (W:=pA) M))
   (try simp only[Act.put,List.setIfInBounds_toArray,List.set_cons_zero,List.set_cons_succ])
   go_cut [22] (fun e1 wc=> ∃(kq:Nat) (aY:Int),e1= .int .i64 aY∧zaa (platenlaw06_FloatsExact.j2 kq aL D aW bf aY ao ap aA aB aC aD aE aF aL av A B af ag=some r)∧zaa (kq≤cf)∧zaa (wc.heap[ai]? =some (.cells #[.int .u64 ay,.bool az] 24 (0,0)))∧zaa (wc.heap[ax]? =some (.cells #[.string ao,.int .i64 ap] 42 (0,0)))∧zaa (wc.heap[ar]? =some (.cells #[.bool aA,.bool aB,.bool aC,.bool aD,.bool aE,.int .i64 aF,.int .i64 aL,.int .i32 av] 26 (0,0)))∧zaa (wc.heap[aM]? =some (.cells #[.string A,.int .i64 B] 42 (0,0)))∧zaa (wc.heap[aP]? =some (.cells #[.string af,.int .i64 ag] 42 (0,0)))∧zaa (Below w.heap.size w wc))
   case first=>
    have H:=c8.out
    clear c8
    have H':=zaa.mk H
    clear H
    go_wp2
    go_loopg [22] cf (fun kq e1 w'=> ∃(au:Int),e1= .int .i64 au∧zaa (platenlaw06_FloatsExact.l0 kq aL D aW bf au ao ap aA aB aC aD aE aF aL av A B af ag=some r)∧zaa (kq≤cf)∧zaa (w'.heap[ai]? =some (.cells #[.int .u64 ay,.bool az] 24 (0,0)))∧zaa (w'.heap[ax]? =some (.cells #[.string ao,.int .i64 ap] 42 (0,0)))∧zaa (w'.heap[ar]? =some (.cells #[.bool aA,.bool aB,.bool aC,.bool aD,.bool aE,.int .i64 aF,.int .i64 aL,.int .i32 av] 26 (0,0)))∧zaa (w'.heap[aM]? =some (.cells #[.string A,.int .i64 B] 42 (0,0)))∧zaa (w'.heap[aP]? =some (.cells #[.string af,.int .i64 ag] 42 (0,0)))∧zaa (Below w.heap.size w w'))
    case atStart=>exact⟨(0),rz,H',⟨Nat.le_refl _⟩,⟨bk⟩,⟨bk⟩,⟨bk⟩,⟨bk⟩,⟨bk⟩,⟨bz⟩⟩
    case round=>
     clear H'
     try clear cz
     try clear bi bj bl bm
     try clear bn bo bp bq
     try clear br bu bv bw bA bB bC bD bE bG bH bI bJ bK bL bM
     try clear bS bU bV bW
     try clear bX bY bZ b0
     try clear b1 b2 b3 b4
     obtain⟨au,rfl,HA,cO,al,ae,am,ab,M,HB⟩:=hrel
     cases gk with
     |zero=>exact absurd HA.out (by simp[platenlaw06_FloatsExact.l0])
     |succ k2=>
      have H:=HA.out
      clear HA
      simp only[platenlaw06_FloatsExact.l0] at H
      by_cases cP:au<(D.size:Int)
      case neg=>
       replace H:=hN H cP
       have cA:=decide_eq_false cP
       clear cP
       try rw[cA]
       have H':=zaa.mk H
       clear H
       go_wp2
       go_meet
       case rel=>exact⟨_,(au),rz,H',⟨by have:=bQ.out;have:=cO.out;first|omega|exact Nat.le_refl _⟩,⟨bk⟩,⟨bk⟩,⟨bk⟩,⟨bk⟩,⟨bk⟩,⟨bz⟩⟩
      replace H:=hE H cP
      have cA:=decide_eq_true cP
      clear cP
      try rw[cA]
      obtain⟨iF,H⟩:=hG H
      have pJ:=decide_eq_true iF
      clear iF
      by_cases c9:(bt D au)=46
      ·replace H:=hE H c9
       obtain⟨e2,e3⟩:=eT c9
       clear c9
       have H':=zaa.mk H
       clear H
       have p52:0≤(au:Int):=of_decide_eq_true (by first|(with_reducible assumption)|assumption)
       have b5:au<(D.size:Int):=of_decide_eq_true (by first|(with_reducible assumption)|assumption)
       have da:=za5 D au
       replace p52:=eq_true p52
       replace b5:=eq_true b5
       go_wp2
       go_meet
       case rel=>exact⟨_,(au),rz,H',⟨by have:=bQ.out;have:=cO.out;first|omega|exact Nat.le_refl _⟩,⟨bk⟩,⟨bk⟩,⟨bk⟩,⟨bk⟩,⟨bk⟩,⟨bz⟩⟩
      replace H:=hN H c9
      obtain⟨e2,e3⟩:=eF c9
      by_cases db:(bt D au)=101
      ·replace H:=hE H db
       obtain⟨e4,e5⟩:=eT db
       clear db
       have H':=zaa.mk H
       clear H
       have p52:0≤(au:Int):=of_decide_eq_true (by first|(with_reducible assumption)|assumption)
       have b5:au<(D.size:Int):=of_decide_eq_true (by first|(with_reducible assumption)|assumption)
       have da:=za5 D au
       replace p52:=eq_true p52
       replace b5:=eq_true b5
       have p54:0≤(au:Int):=of_decide_eq_true (by first|(with_reducible assumption)|assumption)
       have cg:au<(D.size:Int):=of_decide_eq_true (by first|(with_reducible assumption)|assumption)
       have ej:=za5 D au
       replace p54:=eq_true p54
       replace cg:=eq_true cg
       go_wp2
       go_meet
       case rel=>exact⟨_,(au),rz,H',⟨by have:=bQ.out;have:=cO.out;first|omega|exact Nat.le_refl _⟩,⟨bk⟩,⟨bk⟩,⟨bk⟩,⟨bk⟩,⟨bk⟩,⟨bz⟩⟩
      replace H:=hN H db
      obtain⟨e4,e5⟩:=eF db
      by_cases dc:(bt D au)=69
      ·replace H:=hE H dc
       obtain⟨e6,e7⟩:=eT dc
       clear dc
       have H':=zaa.mk H
       clear H
       have p52:0≤(au:Int):=of_decide_eq_true (by first|(with_reducible assumption)|assumption)
       have b5:au<(D.size:Int):=of_decide_eq_true (by first|(with_reducible assumption)|assumption)
       have da:=za5 D au
       replace p52:=eq_true p52
       replace b5:=eq_true b5
       have p54:0≤(au:Int):=of_decide_eq_true (by first|(with_reducible assumption)|assumption)
       have cg:au<(D.size:Int):=of_decide_eq_true (by first|(with_reducible assumption)|assumption)
       have ej:=za5 D au
       replace p54:=eq_true p54
       replace cg:=eq_true cg
       have p56:0≤(au:Int):=of_decide_eq_true (by first|(with_reducible assumption)|assumption)
       have dd:au<(D.size:Int):=of_decide_eq_true (by first|(with_reducible assumption)|assumption)
       have iG:=za5 D au
       replace p56:=eq_true p56
       replace dd:=eq_true dd
       go_wp2
       go_meet
       case rel=>exact⟨_,(au),rz,H',⟨by have:=bQ.out;have:=cO.out;first|omega|exact Nat.le_refl _⟩,⟨bk⟩,⟨bk⟩,⟨bk⟩,⟨bk⟩,⟨bk⟩,⟨bz⟩⟩
      replace H:=hN H dc
      obtain⟨e6,e7⟩:=eF dc
      have H':=zaa.mk H
      clear H
      have p52:0≤(au:Int):=of_decide_eq_true (by first|(with_reducible assumption)|assumption)
      have b5:au<(D.size:Int):=of_decide_eq_true (by first|(with_reducible assumption)|assumption)
      have da:=za5 D au
      replace p52:=eq_true p52
      replace b5:=eq_true b5
      have p54:0≤(au:Int):=of_decide_eq_true (by first|(with_reducible assumption)|assumption)
      have cg:au<(D.size:Int):=of_decide_eq_true (by first|(with_reducible assumption)|assumption)
      have ej:=za5 D au
      replace p54:=eq_true p54
      replace cg:=eq_true cg
      have p56:0≤(au:Int):=of_decide_eq_true (by first|(with_reducible assumption)|assumption)
      have dd:au<(D.size:Int):=of_decide_eq_true (by first|(with_reducible assumption)|assumption)
      have iG:=za5 D au
      replace p56:=eq_true p56
      replace dd:=eq_true dd
      go_wp2
      go_roundg k2
      case measure=>have:=bQ.out;have:=cO.out;omega
      case rel=>exact⟨(wrap64 (au+1)),rz,H',⟨by have:=bQ.out;have:=cO.out;omega⟩,⟨bk⟩,⟨bk⟩,⟨bk⟩,⟨bk⟩,⟨bk⟩,⟨bz⟩⟩
   case rest=>
    clear c8
    try clear cz
    try clear bi bj bl bm
    try clear bn bo bp bq
    try clear br bu bv bw bA bB bC bD bE bG bH bI bJ bK bL bM
    try clear bS bU bV bW
    try clear bX bY bZ b0
    try clear b1 b2 b3 b4
    obtain⟨kq,aY,rfl,HA,ek,al,ae,am,ab,M,HB⟩:=hcut
    cases kq with
    |zero=>exact absurd HA.out (by simp[platenlaw06_FloatsExact.j2])
    |succ iH=>
     have H:=HA.out
     clear HA
     simp only[platenlaw06_FloatsExact.j2] at H
     have de:=zaa.mk H
     clear H
     go_upto_region 16 with(fail)
     go_cut [112] (fun iI wc=> ∃(kq:Nat) (bO:Bool),iI= .bool bO∧zaa (platenlaw06_FloatsExact.j3 kq aL D aW bf aY bO ao ap A B af ag=some r)∧zaa (kq≤iH)∧zaa (wc.heap[ai]? =some (.cells #[.int .u64 ay,.bool az] 24 (0,0)))∧zaa (wc.heap[ax]? =some (.cells #[.string ao,.int .i64 ap] 42 (0,0)))∧zaa (wc.heap[ar]? =some (.cells #[.bool aA,.bool aB,.bool aC,.bool aD,.bool aE,.int .i64 aF,.int .i64 aL,.int .i32 av] 26 (0,0)))∧zaa (wc.heap[aM]? =some (.cells #[.string A,.int .i64 B] 42 (0,0)))∧zaa (wc.heap[aP]? =some (.cells #[.string af,.int .i64 ag] 42 (0,0)))∧zaa (Below w.heap.size w wc))
     case first=>
      have H:=de.out
      clear de
      by_cases df:av=102
      ·replace H:=hE H df
       obtain⟨cB,cC⟩:=eT df
       clear df
       try first|rw[cB]|rw[cC]
       have H':=zaa.mk H
       clear H
       have pK:=a5.out
       have pL:=aX.out
       have pM:=aH.out
       have pN:=aw.out
       have pO:=aj.out
       have pP:=ak.out
       have pQ:=E.out
       have pR:=I.out
       obtain⟨iJ,iK,iL,iM,iN,iO,iP,iQ,iR,iS,iT,iU,iV,iW,iX,iY⟩:=cz8 (W:=wc) am
       go_wp2
       go_meet
       case rel=>exact⟨_,(true),rz,H',⟨by have:=bQ.out;have:=ek.out;first|omega|exact Nat.le_refl _⟩,⟨bk⟩,⟨bk⟩,⟨bk⟩,⟨bk⟩,⟨bk⟩,⟨bz⟩⟩
      replace H:=hN H df
      obtain⟨cB,cC⟩:=eF df
      try first|rw[cB]|rw[cC]
      have H':=zaa.mk H
      clear H
      have pS:=a5.out
      have pT:=aX.out
      have pU:=aH.out
      have pV:=aw.out
      have pW:=aj.out
      have pX:=ak.out
      have pY:=E.out
      have pZ:=I.out
      obtain⟨iZ,i0,i1,i3,i4,i5,i6,i7,i9,ja,jb,jc,jd,je,jf,jg⟩:=cz8 (W:=wc) am
      go_wp2
      go_meet
      case rel=>exact⟨_,((av==70)),rz,H',⟨by have:=bQ.out;have:=ek.out;first|omega|exact Nat.le_refl _⟩,⟨bk⟩,⟨bk⟩,⟨bk⟩,⟨bk⟩,⟨bk⟩,⟨bz⟩⟩
     case rest=>
      clear de
      try clear cz
      try clear bi bj bl bm
      try clear bn bo bp bq
      try clear br bu bv bw bA bB bC bD bE bG bH bI bJ bK bL bM
      try clear bS bU bV bW
      try clear bX bY bZ b0
      try clear b1 b2 b3 b4
      obtain⟨kq,bO,rfl,HA,qB,al,ae,am,ab,M,HB⟩:=hcut
      cases kq with
      |zero=>exact absurd HA.out (by simp[platenlaw06_FloatsExact.j3])
      |succ aU=>
       have H:=HA.out
       clear HA
       simp only[platenlaw06_FloatsExact.j3] at H
       by_cases dp:bO=true
       case neg=>
        replace dp:=Bool.eq_false_iff.mpr dp
        subst dp
        replace H:=hF H
        by_cases cp:aY=1
        case neg=>
         replace H:=hN H cp
         obtain⟨dK,dL⟩:=eF cp
         obtain rfl:=Option.some.inj H
         go_wp2
         go_ret
         exact⟨by first|exact ez|(simp only[←aK,←an];exact ez),bz⟩
        replace H:=hE H cp
        obtain⟨dK,dL⟩:=eT cp
        clear cp
        by_cases ca:aL>0
        case neg=>
         replace H:=hN H ca
         have dM:decide (0<aL)=false:=decide_eq_false ca
         clear ca
         by_cases cM:aW=true
         case neg=>
          replace cM:=Bool.eq_false_iff.mpr cM
          subst cM
          replace H:=hF H
          obtain rfl:=Option.some.inj H
          go_wp2
          go_ret
          exact⟨by first|exact ez|(simp only[←aK,←an];exact ez),bz⟩
         subst cM
         replace H:=hT H
         by_cases cv:bf=0
         case neg=>
          replace H:=hN H cv
          obtain⟨d6,d9⟩:=eF cv
          obtain rfl:=Option.some.inj H
          go_wp2
          go_ret
          exact⟨by first|exact ez|(simp only[←aK,←an];exact ez),bz⟩
         replace H:=hE H cv
         obtain⟨d6,d9⟩:=eT cv
         clear cv
         by_cases bd:(A.toList==af.toList&&(B==ag))=true
         ·replace H:=hE H bd
          have ea:(A.toList==af.toList&&(B==ag))=true:=bd
          (try(have eb:decide (A.toList=af.toList&&(B==ag))=true:=by simpa using bd))
          (try(have ec:(A.toList==af.toList&&(B==ag))=true:=by simpa using bd))
          clear bd
          replace H:=bs H
          obtain⟨fs,jJ,H⟩:=H
          obtain rfl:=Option.some.inj H
          have oD:=aJ.out
          have oE:=aI.out
          have oF:=U.out
          have oG:=O.out
          have oH:=ak.out
          have oI:=aj.out
          have oJ:=J.out
          have oK:=K.out
          obtain⟨ik,il,im,io⟩:=cz2 (W:=wc) ab
          have oL:=Y.out
          have oM:=X.out
          have oN:=aa.out
          have oO:=Z.out
          have oP:=I.out
          have oQ:=E.out
          obtain⟨ip,iq,ir,it⟩:=cz2 (W:=wc) M
          go_wp2_with (first|(go_at_call 23;(with_reducible refine(zaH.calls aU fs _ jJ.out).mono ?_);rintro e qH ⟨rfl,hb⟩;replace al:=kN (g:=ai) (cs:=#[.int .u64 ay,.bool az]) hb bk;replace ae:=kN (g:=ax) (cs:=#[.string ao,.int .i64 ap]) hb bk;replace am:=kN (g:=ar) (cs:=#[.bool aA,.bool aB,.bool aC,.bool aD,.bool aE,.int .i64 aF,.int .i64 aL,.int .i32 av]) hb bk;replace ab:=kN (g:=aM) (cs:=#[.string A,.int .i64 B]) hb bk;replace M:=kN (g:=aP) (cs:=#[.string af,.int .i64 ag]) hb bk;replace HB:=bN bz hb;(try clear hb);(try clear aV);(try clear hk);(try clear hi)))
          go_ret
          exact⟨by first|exact ez|(simp only[←aK,←an];exact ez),bz⟩
         replace H:=hN H bd
         have ea:(A.toList==af.toList&&(B==ag))=false:=by simpa using bd
         (try(have eb:decide (A.toList=af.toList&&(B==ag))=false:=by simpa using bd))
         (try(have ec:(A.toList==af.toList&&(B==ag))=false:=by simpa using bd))
         (try(have oR: ¬(A.toList=af.toList&&(B==ag)):=by simpa using bd))
         clear bd
         obtain rfl:=Option.some.inj H
         have oS:=aJ.out
         have oT:=aI.out
         have oU:=U.out
         have oV:=O.out
         have oW:=ak.out
         have oX:=aj.out
         have oY:=J.out
         have oZ:=K.out
         obtain⟨iu,iv,iw,ix⟩:=cz2 (W:=wc) ab
         have o0:=Y.out
         have o1:=X.out
         have o2:=aa.out
         have o3:=Z.out
         have o4:=I.out
         have o5:=E.out
         obtain⟨iy,iz,iA,iB⟩:=cz2 (W:=wc) M
         go_wp2
         go_ret
         exact⟨by first|exact ez|(simp only[←aK,←an];exact ez),bz⟩
        replace H:=hE H ca
        have dM:decide (0<aL)=true:=decide_eq_true ca
        clear ca
        by_cases cb:(D.size:Int)≤(wrap64 (2+aL))
        ·replace H:=hE H cb
         have cJ:=decide_eq_true cb
         clear cb
         obtain rfl:=Option.some.inj H
         go_wp2
         go_ret
         exact⟨by first|exact ez|(simp only[←aK,←an];exact ez),bz⟩
        replace H:=hN H cb
        have cJ:=decide_eq_false cb
        clear cb
        obtain⟨ah,aS⟩:=ex (wrap64 (2+aL))
        (first|rw[aS] at H|simp only[aS] at H)
        (try rw[aS] at cJ)
        have jG:(IntKind.i64.wrap (2+aL))=ah:=(zap _).trans aS
        obtain⟨eq,H⟩:=hG H
        have nt:=decide_eq_true eq
        clear eq
        obtain⟨er,H⟩:=hG H
        have nu:=decide_eq_true er
        clear er
        by_cases cq:(bt D (ah))=101
        ·replace H:=hE H cq
         obtain⟨dN,dO⟩:=eT cq
         clear cq
         by_cases cK:aW=true
         case neg=>
          replace cK:=Bool.eq_false_iff.mpr cK
          subst cK
          replace H:=hF H
          obtain rfl:=Option.some.inj H
          have aQ:0≤((ah):Int):=of_decide_eq_true (by first|(with_reducible assumption)|assumption)
          have aR:(ah)<(D.size:Int):=of_decide_eq_true (by first|(with_reducible assumption)|assumption)
          have ba:=za5 D (ah)
          replace aQ:=eq_true aQ
          replace aR:=eq_true aR
          go_wp2
          go_ret
          exact⟨by first|exact ez|(simp only[←aK,←an,←aS];exact ez),bz⟩
         subst cK
         replace H:=hT H
         by_cases cr:bf=0
         case neg=>
          replace H:=hN H cr
          obtain⟨dP,dQ⟩:=eF cr
          obtain rfl:=Option.some.inj H
          have aQ:0≤((ah):Int):=of_decide_eq_true (by first|(with_reducible assumption)|assumption)
          have aR:(ah)<(D.size:Int):=of_decide_eq_true (by first|(with_reducible assumption)|assumption)
          have ba:=za5 D (ah)
          replace aQ:=eq_true aQ
          replace aR:=eq_true aR
          go_wp2
          go_ret
          exact⟨by first|exact ez|(simp only[←aK,←an,←aS];exact ez),bz⟩
         replace H:=hE H cr
         obtain⟨dP,dQ⟩:=eT cr
         clear cr
         by_cases a9:(A.toList==af.toList&&(B==ag))=true
         ·replace H:=hE H a9
          have dR:(A.toList==af.toList&&(B==ag))=true:=a9
          (try(have dS:decide (A.toList=af.toList&&(B==ag))=true:=by simpa using a9))
          (try(have dT:(A.toList==af.toList&&(B==ag))=true:=by simpa using a9))
          clear a9
          replace H:=bs H
          obtain⟨fp,jH,H⟩:=H
          obtain rfl:=Option.some.inj H
          have aQ:0≤((ah):Int):=of_decide_eq_true (by first|(with_reducible assumption)|assumption)
          have aR:(ah)<(D.size:Int):=of_decide_eq_true (by first|(with_reducible assumption)|assumption)
          have ba:=za5 D (ah)
          replace aQ:=eq_true aQ
          replace aR:=eq_true aR
          have nv:=aJ.out
          have nw:=aI.out
          have nx:=U.out
          have ny:=O.out
          have nz:=ak.out
          have nA:=aj.out
          have nB:=J.out
          have nC:=K.out
          obtain⟨hK,hL,hM,hO⟩:=cz2 (W:=wc) ab
          have nD:=Y.out
          have nE:=X.out
          have nF:=aa.out
          have nG:=Z.out
          have nH:=I.out
          have nI:=E.out
          obtain⟨hP,hQ,hR,hS⟩:=cz2 (W:=wc) M
          go_wp2_with (first|(go_at_call 23;(with_reducible refine(zaH.calls aU fp _ jH.out).mono ?_);rintro e qF ⟨rfl,hb⟩;replace al:=kN (g:=ai) (cs:=#[.int .u64 ay,.bool az]) hb bk;replace ae:=kN (g:=ax) (cs:=#[.string ao,.int .i64 ap]) hb bk;replace am:=kN (g:=ar) (cs:=#[.bool aA,.bool aB,.bool aC,.bool aD,.bool aE,.int .i64 aF,.int .i64 aL,.int .i32 av]) hb bk;replace ab:=kN (g:=aM) (cs:=#[.string A,.int .i64 B]) hb bk;replace M:=kN (g:=aP) (cs:=#[.string af,.int .i64 ag]) hb bk;replace HB:=bN bz hb;(try clear hb);(try clear aV);(try clear hk);(try clear hi)))
          go_ret
          exact⟨by first|exact ez|(simp only[←aK,←an,←aS];exact ez),bz⟩
         replace H:=hN H a9
         have dR:(A.toList==af.toList&&(B==ag))=false:=by simpa using a9
         (try(have dS:decide (A.toList=af.toList&&(B==ag))=false:=by simpa using a9))
         (try(have dT:(A.toList==af.toList&&(B==ag))=false:=by simpa using a9))
         (try(have nJ: ¬(A.toList=af.toList&&(B==ag)):=by simpa using a9))
         clear a9
         obtain rfl:=Option.some.inj H
         have aQ:0≤((ah):Int):=of_decide_eq_true (by first|(with_reducible assumption)|assumption)
         have aR:(ah)<(D.size:Int):=of_decide_eq_true (by first|(with_reducible assumption)|assumption)
         have ba:=za5 D (ah)
         replace aQ:=eq_true aQ
         replace aR:=eq_true aR
         have nK:=aJ.out
         have nL:=aI.out
         have nM:=U.out
         have nN:=O.out
         have nO:=ak.out
         have nP:=aj.out
         have nQ:=J.out
         have nR:=K.out
         obtain⟨hU,hV,hW,hX⟩:=cz2 (W:=wc) ab
         have nS:=Y.out
         have nT:=X.out
         have nU:=aa.out
         have nV:=Z.out
         have nW:=I.out
         have nX:=E.out
         obtain⟨hY,hZ,h0,h1⟩:=cz2 (W:=wc) M
         go_wp2
         go_ret
         exact⟨by first|exact ez|(simp only[←aK,←an,←aS];exact ez),bz⟩
        replace H:=hN H cq
        obtain⟨dN,dO⟩:=eF cq
        by_cases ct:(bt D (ah))=69
        case neg=>
         replace H:=hN H ct
         obtain⟨dU,dV⟩:=eF ct
         obtain rfl:=Option.some.inj H
         have aQ:0≤((ah):Int):=of_decide_eq_true (by first|(with_reducible assumption)|assumption)
         have aR:(ah)<(D.size:Int):=of_decide_eq_true (by first|(with_reducible assumption)|assumption)
         have ba:=za5 D (ah)
         replace aQ:=eq_true aQ
         replace aR:=eq_true aR
         have aZ:0≤((ah):Int):=of_decide_eq_true (by first|(with_reducible assumption)|assumption)
         have a3:(ah)<(D.size:Int):=of_decide_eq_true (by first|(with_reducible assumption)|assumption)
         have ce:=za5 D (ah)
         replace aZ:=eq_true aZ
         replace a3:=eq_true a3
         go_wp2
         go_ret
         exact⟨by first|exact ez|(simp only[←aK,←an,←aS];exact ez),bz⟩
        replace H:=hE H ct
        obtain⟨dU,dV⟩:=eT ct
        clear ct
        by_cases cL:aW=true
        case neg=>
         replace cL:=Bool.eq_false_iff.mpr cL
         subst cL
         replace H:=hF H
         obtain rfl:=Option.some.inj H
         have aQ:0≤((ah):Int):=of_decide_eq_true (by first|(with_reducible assumption)|assumption)
         have aR:(ah)<(D.size:Int):=of_decide_eq_true (by first|(with_reducible assumption)|assumption)
         have ba:=za5 D (ah)
         replace aQ:=eq_true aQ
         replace aR:=eq_true aR
         have aZ:0≤((ah):Int):=of_decide_eq_true (by first|(with_reducible assumption)|assumption)
         have a3:(ah)<(D.size:Int):=of_decide_eq_true (by first|(with_reducible assumption)|assumption)
         have ce:=za5 D (ah)
         replace aZ:=eq_true aZ
         replace a3:=eq_true a3
         go_wp2
         go_ret
         exact⟨by first|exact ez|(simp only[←aK,←an,←aS];exact ez),bz⟩
        subst cL
        replace H:=hT H
        by_cases cu:bf=0
        case neg=>
         replace H:=hN H cu
         obtain⟨dW,dY⟩:=eF cu
         obtain rfl:=Option.some.inj H
         have aQ:0≤((ah):Int):=of_decide_eq_true (by first|(with_reducible assumption)|assumption)
         have aR:(ah)<(D.size:Int):=of_decide_eq_true (by first|(with_reducible assumption)|assumption)
         have ba:=za5 D (ah)
         replace aQ:=eq_true aQ
         replace aR:=eq_true aR
         have aZ:0≤((ah):Int):=of_decide_eq_true (by first|(with_reducible assumption)|assumption)
         have a3:(ah)<(D.size:Int):=of_decide_eq_true (by first|(with_reducible assumption)|assumption)
         have ce:=za5 D (ah)
         replace aZ:=eq_true aZ
         replace a3:=eq_true a3
         go_wp2
         go_ret
         exact⟨by first|exact ez|(simp only[←aK,←an,←aS];exact ez),bz⟩
        replace H:=hE H cu
        obtain⟨dW,dY⟩:=eT cu
        clear cu
        by_cases bb:(A.toList==af.toList&&(B==ag))=true
        ·replace H:=hE H bb
         have dZ:(A.toList==af.toList&&(B==ag))=true:=bb
         (try(have d0:decide (A.toList=af.toList&&(B==ag))=true:=by simpa using bb))
         (try(have d5:(A.toList==af.toList&&(B==ag))=true:=by simpa using bb))
         clear bb
         replace H:=bs H
         obtain⟨fq,jI,H⟩:=H
         obtain rfl:=Option.some.inj H
         have aQ:0≤((ah):Int):=of_decide_eq_true (by first|(with_reducible assumption)|assumption)
         have aR:(ah)<(D.size:Int):=of_decide_eq_true (by first|(with_reducible assumption)|assumption)
         have ba:=za5 D (ah)
         replace aQ:=eq_true aQ
         replace aR:=eq_true aR
         have aZ:0≤((ah):Int):=of_decide_eq_true (by first|(with_reducible assumption)|assumption)
         have a3:(ah)<(D.size:Int):=of_decide_eq_true (by first|(with_reducible assumption)|assumption)
         have ce:=za5 D (ah)
         replace aZ:=eq_true aZ
         replace a3:=eq_true a3
         have nY:=aJ.out
         have nZ:=aI.out
         have n0:=U.out
         have n1:=O.out
         have n2:=ak.out
         have n3:=aj.out
         have oa:=J.out
         have ob:=K.out
         obtain⟨h2,h3,h4,h5⟩:=cz2 (W:=wc) ab
         have oc:=Y.out
         have od:=X.out
         have oe:=aa.out
         have og:=Z.out
         have oh:=I.out
         have oi:=E.out
         obtain⟨h6,h7,h8,h9⟩:=cz2 (W:=wc) M
         go_wp2_with (first|(go_at_call 23;(with_reducible refine(zaH.calls aU fq _ jI.out).mono ?_);rintro e qG ⟨rfl,hb⟩;replace al:=kN (g:=ai) (cs:=#[.int .u64 ay,.bool az]) hb bk;replace ae:=kN (g:=ax) (cs:=#[.string ao,.int .i64 ap]) hb bk;replace am:=kN (g:=ar) (cs:=#[.bool aA,.bool aB,.bool aC,.bool aD,.bool aE,.int .i64 aF,.int .i64 aL,.int .i32 av]) hb bk;replace ab:=kN (g:=aM) (cs:=#[.string A,.int .i64 B]) hb bk;replace M:=kN (g:=aP) (cs:=#[.string af,.int .i64 ag]) hb bk;replace HB:=bN bz hb;(try clear hb);(try clear aV);(try clear hk);(try clear hi)))
         go_ret
         exact⟨by first|exact ez|(simp only[←aK,←an,←aS];exact ez),bz⟩
        replace H:=hN H bb
        have dZ:(A.toList==af.toList&&(B==ag))=false:=by simpa using bb
        (try(have d0:decide (A.toList=af.toList&&(B==ag))=false:=by simpa using bb))
        (try(have d5:(A.toList==af.toList&&(B==ag))=false:=by simpa using bb))
        (try(have oj: ¬(A.toList=af.toList&&(B==ag)):=by simpa using bb))
        clear bb
        obtain rfl:=Option.some.inj H
        have aQ:0≤((ah):Int):=of_decide_eq_true (by first|(with_reducible assumption)|assumption)
        have aR:(ah)<(D.size:Int):=of_decide_eq_true (by first|(with_reducible assumption)|assumption)
        have ba:=za5 D (ah)
        replace aQ:=eq_true aQ
        replace aR:=eq_true aR
        have aZ:0≤((ah):Int):=of_decide_eq_true (by first|(with_reducible assumption)|assumption)
        have a3:(ah)<(D.size:Int):=of_decide_eq_true (by first|(with_reducible assumption)|assumption)
        have ce:=za5 D (ah)
        replace aZ:=eq_true aZ
        replace a3:=eq_true a3
        have ol:=aJ.out
        have om:=aI.out
        have oo:=U.out
        have oq:=O.out
        have os:=ak.out
        have ot:=aj.out
        have ou:=J.out
        have ov:=K.out
        obtain⟨ia,ib,ic,id⟩:=cz2 (W:=wc) ab
        have ow:=Y.out
        have ox:=X.out
        have oy:=aa.out
        have oA:=Z.out
        have oB:=I.out
        have oC:=E.out
        obtain⟨ie,ig,ih,ij⟩:=cz2 (W:=wc) M
        go_wp2
        go_ret
        exact⟨by first|exact ez|(simp only[←aK,←an,←aS];exact ez),bz⟩
       subst dp
       replace H:=hT H
       replace H:=bs H
       obtain⟨⟨ac,ad,aT⟩,b6,H⟩:=H
       dsimp only at H
       by_cases cQ:aL>0
       case neg=>
        replace H:=hN H cQ
        have e8:decide (0<aL)=false:=decide_eq_false cQ
        clear cQ
        by_cases cj:aL=0
        case neg=>
         replace H:=hN H cj
         obtain⟨dx,dy⟩:=eF cj
         by_cases cI:aW=true
         case neg=>
          replace cI:=Bool.eq_false_iff.mpr cI
          subst cI
          replace H:=hF H
          obtain rfl:=Option.some.inj H
          have nb:=aO.out
          have nc:=aN.out
          have nf:=aw.out
          have ng:=aH.out
          have nh:=O.out
          have ni:=U.out
          have nj:=Z.out
          have nk:=aa.out
          obtain⟨hz,hA,hB,hC⟩:=cz2 (W:=wc) ae
          go_wp2_with (first|((with_reducible refine zac (f:=33) rfl ?_);refine gB Tryz.func33 (zaQ.calls aU ao ap aL ac ad aT _ b6.out) ?_ (hargs:=by(try simp only[List.map_toArray,List.map_cons,List.map_nil]);first|done|(simp only[an];rfl)|rfl|(simp only[List.length_drop,List.length_take];rfl));intro jF hb;replace al:=kN (g:=ai) (cs:=#[.int .u64 ay,.bool az]) hb bk;replace ae:=kN (g:=ax) (cs:=#[.string ao,.int .i64 ap]) hb bk;replace am:=kN (g:=ar) (cs:=#[.bool aA,.bool aB,.bool aC,.bool aD,.bool aE,.int .i64 aF,.int .i64 aL,.int .i32 av]) hb bk;replace ab:=kN (g:=aM) (cs:=#[.string A,.int .i64 B]) hb bk;replace M:=kN (g:=aP) (cs:=#[.string af,.int .i64 ag]) hb bk;replace HB:=bN bz hb;(try clear hb);(try clear aV);(try clear hk);(try clear hi);have nl:=Y.out;have nm:=X.out;have nn:=I.out;have np:=E.out;have nq:=K.out;have nr:=J.out;obtain⟨hD,hH,hI,hJ⟩:=cz2 (W:=jF) M))
          go_ret
          exact⟨by first|exact ez|(simp only[←aK,←an];exact ez),bz⟩
         subst cI
         replace H:=hT H
         by_cases co:aT=0
         case neg=>
          replace H:=hN H co
          obtain⟨dF,dG⟩:=eF co
          obtain rfl:=Option.some.inj H
          have mX:=aO.out
          have mY:=aN.out
          have mZ:=aw.out
          have m0:=aH.out
          have m1:=O.out
          have m2:=U.out
          have m3:=Z.out
          have m4:=aa.out
          obtain⟨hr,hs,ht,hu⟩:=cz2 (W:=wc) ae
          go_wp2_with (first|((with_reducible refine zac (f:=33) rfl ?_);refine gB Tryz.func33 (zaQ.calls aU ao ap aL ac ad aT _ b6.out) ?_ (hargs:=by(try simp only[List.map_toArray,List.map_cons,List.map_nil]);first|done|(simp only[an];rfl)|rfl|(simp only[List.length_drop,List.length_take];rfl));intro jE hb;replace al:=kN (g:=ai) (cs:=#[.int .u64 ay,.bool az]) hb bk;replace ae:=kN (g:=ax) (cs:=#[.string ao,.int .i64 ap]) hb bk;replace am:=kN (g:=ar) (cs:=#[.bool aA,.bool aB,.bool aC,.bool aD,.bool aE,.int .i64 aF,.int .i64 aL,.int .i32 av]) hb bk;replace ab:=kN (g:=aM) (cs:=#[.string A,.int .i64 B]) hb bk;replace M:=kN (g:=aP) (cs:=#[.string af,.int .i64 ag]) hb bk;replace HB:=bN bz hb;(try clear hb);(try clear aV);(try clear hk);(try clear hi);have m5:=Y.out;have m6:=X.out;have m7:=I.out;have m8:=E.out;have m9:=K.out;have na:=J.out;obtain⟨hv,hw,hx,hy⟩:=cz2 (W:=jE) M))
          go_ret
          exact⟨by first|exact ez|(simp only[←aK,←an];exact ez),bz⟩
         replace H:=hE H co
         obtain⟨dF,dG⟩:=eT co
         clear co
         by_cases a8:(A.toList==ac.toList&&(B==ad))=true
         ·replace H:=hE H a8
          have dH:(A.toList==ac.toList&&(B==ad))=true:=a8
          (try(have dI:decide (A.toList=ac.toList&&(B==ad))=true:=by simpa using a8))
          (try(have dJ:(A.toList==ac.toList&&(B==ad))=true:=by simpa using a8))
          clear a8
          replace H:=bs H
          obtain⟨fo,jD,H⟩:=H
          obtain rfl:=Option.some.inj H
          have mi:=aO.out
          have mj:=aN.out
          have ml:=aw.out
          have mm:=aH.out
          have mo:=O.out
          have mp:=U.out
          have mq:=Z.out
          have mr:=aa.out
          obtain⟨gY,gZ,g0,g1⟩:=cz2 (W:=wc) ae
          go_wp2_with (first|((with_reducible refine zac (f:=33) rfl ?_);refine gB Tryz.func33 (zaQ.calls aU ao ap aL ac ad aT _ b6.out) ?_ (hargs:=by(try simp only[List.map_toArray,List.map_cons,List.map_nil]);first|done|(simp only[an];rfl)|rfl|(simp only[List.length_drop,List.length_take];rfl));intro eo hb;replace al:=kN (g:=ai) (cs:=#[.int .u64 ay,.bool az]) hb bk;replace ae:=kN (g:=ax) (cs:=#[.string ao,.int .i64 ap]) hb bk;replace am:=kN (g:=ar) (cs:=#[.bool aA,.bool aB,.bool aC,.bool aD,.bool aE,.int .i64 aF,.int .i64 aL,.int .i32 av]) hb bk;replace ab:=kN (g:=aM) (cs:=#[.string A,.int .i64 B]) hb bk;replace M:=kN (g:=aP) (cs:=#[.string af,.int .i64 ag]) hb bk;replace HB:=bN bz hb;(try clear hb);(try clear aV);(try clear hk);(try clear hi);have ms:=Y.out;have mt:=X.out;have mu:=I.out;have mw:=E.out;have my:=K.out;have mz:=J.out;obtain⟨g2,g3,g4,g5⟩:=cz2 (W:=eo) M;have mA:=aJ.out;have mB:=aI.out;have mC:=ak.out;have mD:=aj.out;obtain⟨g6,g7,g8,g9⟩:=cz2 (W:=eo) ab)|(go_at_call 23;(with_reducible refine(zaH.calls aU fo _ jD.out).mono ?_);rintro e qE ⟨rfl,hb⟩;replace al:=kN (g:=ai) (cs:=#[.int .u64 ay,.bool az]) hb bk;replace ae:=kN (g:=ax) (cs:=#[.string ao,.int .i64 ap]) hb bk;replace am:=kN (g:=ar) (cs:=#[.bool aA,.bool aB,.bool aC,.bool aD,.bool aE,.int .i64 aF,.int .i64 aL,.int .i32 av]) hb bk;replace ab:=kN (g:=aM) (cs:=#[.string A,.int .i64 B]) hb bk;replace M:=kN (g:=aP) (cs:=#[.string ac,.int .i64 ad]) hb bk;replace HB:=bN bz hb;(try clear hb);(try clear aV);(try clear hk);(try clear hi)))
          go_ret
          exact⟨by first|exact ez|(simp only[←aK,←an];exact ez),bz⟩
         replace H:=hN H a8
         have dH:(A.toList==ac.toList&&(B==ad))=false:=by simpa using a8
         (try(have dI:decide (A.toList=ac.toList&&(B==ad))=false:=by simpa using a8))
         (try(have dJ:(A.toList==ac.toList&&(B==ad))=false:=by simpa using a8))
         (try(have mE: ¬(A.toList=ac.toList&&(B==ad)):=by simpa using a8))
         clear a8
         obtain rfl:=Option.some.inj H
         have mF:=aO.out
         have mG:=aN.out
         have mH:=aw.out
         have mI:=aH.out
         have mJ:=O.out
         have mK:=U.out
         have mL:=Z.out
         have mM:=aa.out
         obtain⟨ha,hc,he,hf⟩:=cz2 (W:=wc) ae
         go_wp2_with (first|((with_reducible refine zac (f:=33) rfl ?_);refine gB Tryz.func33 (zaQ.calls aU ao ap aL ac ad aT _ b6.out) ?_ (hargs:=by(try simp only[List.map_toArray,List.map_cons,List.map_nil]);first|done|(simp only[an];rfl)|rfl|(simp only[List.length_drop,List.length_take];rfl));intro ep hb;replace al:=kN (g:=ai) (cs:=#[.int .u64 ay,.bool az]) hb bk;replace ae:=kN (g:=ax) (cs:=#[.string ao,.int .i64 ap]) hb bk;replace am:=kN (g:=ar) (cs:=#[.bool aA,.bool aB,.bool aC,.bool aD,.bool aE,.int .i64 aF,.int .i64 aL,.int .i32 av]) hb bk;replace ab:=kN (g:=aM) (cs:=#[.string A,.int .i64 B]) hb bk;replace M:=kN (g:=aP) (cs:=#[.string af,.int .i64 ag]) hb bk;replace HB:=bN bz hb;(try clear hb);(try clear aV);(try clear hk);(try clear hi);have mN:=Y.out;have mO:=X.out;have mP:=I.out;have mQ:=E.out;have mR:=K.out;have mS:=J.out;obtain⟨hh,hj,hl,hm⟩:=cz2 (W:=ep) M;have mT:=aJ.out;have mU:=aI.out;have mV:=ak.out;have mW:=aj.out;obtain⟨hn,ho,hp,hq⟩:=cz2 (W:=ep) ab))
         go_ret
         exact⟨by first|exact ez|(simp only[←aK,←an];exact ez),bz⟩
        replace H:=hE H cj
        obtain⟨dx,dy⟩:=eT cj
        clear cj
        have ly:=aO.out
        have lA:=aN.out
        have lB:=aw.out
        have lC:=aH.out
        have lD:=O.out
        have lE:=U.out
        have lF:=Z.out
        have lG:=aa.out
        obtain⟨gw,gx,gy,gA⟩:=cz2 (W:=wc) ae
        go_upto_if 139 with(first|((with_reducible refine zac (f:=33) rfl ?_);refine gB Tryz.func33 (zaQ.calls aU ao ap aL ac ad aT _ b6.out) ?_ (hargs:=by(try simp only[List.map_toArray,List.map_cons,List.map_nil]);first|done|(simp only[an];rfl)|rfl|(simp only[List.length_drop,List.length_take];rfl));intro ck hb;replace al:=kN (g:=ai) (cs:=#[.int .u64 ay,.bool az]) hb bk;replace ae:=kN (g:=ax) (cs:=#[.string ao,.int .i64 ap]) hb bk;replace am:=kN (g:=ar) (cs:=#[.bool aA,.bool aB,.bool aC,.bool aD,.bool aE,.int .i64 aF,.int .i64 aL,.int .i32 av]) hb bk;replace ab:=kN (g:=aM) (cs:=#[.string A,.int .i64 B]) hb bk;replace M:=kN (g:=aP) (cs:=#[.string af,.int .i64 ag]) hb bk;replace HB:=bN bz hb;(try clear hb);(try clear aV);(try clear hk);(try clear hi);have lH:=Y.out;have lI:=X.out;have lJ:=I.out;have lK:=E.out;have lL:=K.out;have lM:=J.out;obtain⟨gC,gD,gE,gF⟩:=cz2 (W:=ck) M))
        (try simp only[Act.put,List.setIfInBounds_toArray,List.set_cons_zero,List.set_cons_succ])
        by_cases cm:(D.size:Int)=aY
        case neg=>
         replace H:=hN H cm
         obtain⟨cc,cd⟩:=eF cm
         try first|rw[cc]|rw[cd]
         obtain rfl:=Option.some.inj H
         go_wp2
         go_ret
         exact⟨by first|exact ez|(simp only[←aK,←an];exact ez),bz⟩
        replace H:=hE H cm
        obtain⟨cc,cd⟩:=eT cm
        clear cm
        try first|rw[cc]|rw[cd]
        by_cases cH:aW=true
        case neg=>
         replace cH:=Bool.eq_false_iff.mpr cH
         subst cH
         replace H:=hF H
         obtain rfl:=Option.some.inj H
         go_wp2
         go_ret
         exact⟨by first|exact ez|(simp only[←aK,←an];exact ez),bz⟩
        subst cH
        replace H:=hT H
        by_cases cn:aT=0
        case neg=>
         replace H:=hN H cn
         obtain⟨dA,dB⟩:=eF cn
         obtain rfl:=Option.some.inj H
         go_wp2
         go_ret
         exact⟨by first|exact ez|(simp only[←aK,←an];exact ez),bz⟩
        replace H:=hE H cn
        obtain⟨dA,dB⟩:=eT cn
        clear cn
        by_cases a7:(A.toList==ac.toList&&(B==ad))=true
        ·replace H:=hE H a7
         have dC:(A.toList==ac.toList&&(B==ad))=true:=a7
         (try(have dD:decide (A.toList=ac.toList&&(B==ad))=true:=by simpa using a7))
         (try(have dE:(A.toList==ac.toList&&(B==ad))=true:=by simpa using a7))
         clear a7
         replace H:=bs H
         obtain⟨fm,jC,H⟩:=H
         obtain rfl:=Option.some.inj H
         have lO:=aJ.out
         have lP:=aI.out
         have lQ:=U.out
         have lR:=O.out
         have lS:=ak.out
         have lT:=aj.out
         have lU:=J.out
         have lV:=K.out
         obtain⟨gH,gI,gJ,gK⟩:=cz2 (W:=ck) ab
         have lW:=Y.out
         have lX:=X.out
         have lY:=aa.out
         have lZ:=Z.out
         have l1:=I.out
         have l2:=E.out
         obtain⟨gL,gM,gO,gP⟩:=cz2 (W:=ck) M
         go_wp2_with (first|(go_at_call 23;(with_reducible refine(zaH.calls aU fm _ jC.out).mono ?_);rintro e qD ⟨rfl,hb⟩;replace al:=kN (g:=ai) (cs:=#[.int .u64 ay,.bool az]) hb bk;replace ae:=kN (g:=ax) (cs:=#[.string ao,.int .i64 ap]) hb bk;replace am:=kN (g:=ar) (cs:=#[.bool aA,.bool aB,.bool aC,.bool aD,.bool aE,.int .i64 aF,.int .i64 aL,.int .i32 av]) hb bk;replace ab:=kN (g:=aM) (cs:=#[.string A,.int .i64 B]) hb bk;replace M:=kN (g:=aP) (cs:=#[.string ac,.int .i64 ad]) hb bk;replace HB:=bN bz hb;(try clear hb);(try clear aV);(try clear hk);(try clear hi)))
         go_ret
         exact⟨by first|exact ez|(simp only[←aK,←an];exact ez),bz⟩
        replace H:=hN H a7
        have dC:(A.toList==ac.toList&&(B==ad))=false:=by simpa using a7
        (try(have dD:decide (A.toList=ac.toList&&(B==ad))=false:=by simpa using a7))
        (try(have dE:(A.toList==ac.toList&&(B==ad))=false:=by simpa using a7))
        (try(have l3: ¬(A.toList=ac.toList&&(B==ad)):=by simpa using a7))
        clear a7
        obtain rfl:=Option.some.inj H
        have l4:=aJ.out
        have l5:=aI.out
        have l6:=U.out
        have l7:=O.out
        have l8:=ak.out
        have l9:=aj.out
        have ma:=J.out
        have mb:=K.out
        obtain⟨gQ,gR,gS,gT⟩:=cz2 (W:=ck) ab
        have mc:=Y.out
        have md:=X.out
        have me:=aa.out
        have mf:=Z.out
        have mg:=I.out
        have mh:=E.out
        obtain⟨gU,gV,gW,gX⟩:=cz2 (W:=ck) M
        go_wp2
        go_ret
        exact⟨by first|exact ez|(simp only[←aK,←an];exact ez),bz⟩
       replace H:=hE H cQ
       have e8:decide (0<aL)=true:=decide_eq_true cQ
       clear cQ
       by_cases dh:(D.size:Int)=(wrap64 ((wrap64 (aY+1))+aL))
       case neg=>
        replace H:=hN H dh
        obtain⟨e9,fa⟩:=eF dh
        obtain rfl:=Option.some.inj H
        have lg:=aO.out
        have lh:=aN.out
        have li:=aw.out
        have lj:=aH.out
        have lk:=O.out
        have lm:=U.out
        have ln:=Z.out
        have lo:=aa.out
        obtain⟨gn,gp,gq,gr⟩:=cz2 (W:=wc) ae
        go_wp2_with (first|((with_reducible refine zac (f:=33) rfl ?_);refine gB Tryz.func33 (zaQ.calls aU ao ap aL ac ad aT _ b6.out) ?_ (hargs:=by(try simp only[List.map_toArray,List.map_cons,List.map_nil]);first|done|(simp only[an];rfl)|rfl|(simp only[List.length_drop,List.length_take];rfl));intro jB hb;replace al:=kN (g:=ai) (cs:=#[.int .u64 ay,.bool az]) hb bk;replace ae:=kN (g:=ax) (cs:=#[.string ao,.int .i64 ap]) hb bk;replace am:=kN (g:=ar) (cs:=#[.bool aA,.bool aB,.bool aC,.bool aD,.bool aE,.int .i64 aF,.int .i64 aL,.int .i32 av]) hb bk;replace ab:=kN (g:=aM) (cs:=#[.string A,.int .i64 B]) hb bk;replace M:=kN (g:=aP) (cs:=#[.string af,.int .i64 ag]) hb bk;replace HB:=bN bz hb;(try clear hb);(try clear aV);(try clear hk);(try clear hi);have lp:=Y.out;have lq:=X.out;have lr:=I.out;have lu:=E.out;have lw:=K.out;have lx:=J.out;obtain⟨gs,gt,gu,gv⟩:=cz2 (W:=jB) M))
        go_ret
        exact⟨by first|exact ez|(simp only[←aK,←an];exact ez),bz⟩
       replace H:=hE H dh
       obtain⟨e9,fa⟩:=eT dh
       clear dh
       by_cases di:aL=0
       case neg=>
        replace H:=hN H di
        obtain⟨fb,fc⟩:=eF di
        by_cases cG:aW=true
        case neg=>
         replace cG:=Bool.eq_false_iff.mpr cG
         subst cG
         replace H:=hF H
         obtain rfl:=Option.some.inj H
         have kX:=aO.out
         have kY:=aN.out
         have kZ:=aw.out
         have k0:=aH.out
         have k3:=O.out
         have k4:=U.out
         have k5:=Z.out
         have k6:=aa.out
         obtain⟨ge,gf,gg,gh⟩:=cz2 (W:=wc) ae
         go_wp2_with (first|((with_reducible refine zac (f:=33) rfl ?_);refine gB Tryz.func33 (zaQ.calls aU ao ap aL ac ad aT _ b6.out) ?_ (hargs:=by(try simp only[List.map_toArray,List.map_cons,List.map_nil]);first|done|(simp only[an];rfl)|rfl|(simp only[List.length_drop,List.length_take];rfl));intro jA hb;replace al:=kN (g:=ai) (cs:=#[.int .u64 ay,.bool az]) hb bk;replace ae:=kN (g:=ax) (cs:=#[.string ao,.int .i64 ap]) hb bk;replace am:=kN (g:=ar) (cs:=#[.bool aA,.bool aB,.bool aC,.bool aD,.bool aE,.int .i64 aF,.int .i64 aL,.int .i32 av]) hb bk;replace ab:=kN (g:=aM) (cs:=#[.string A,.int .i64 B]) hb bk;replace M:=kN (g:=aP) (cs:=#[.string af,.int .i64 ag]) hb bk;replace HB:=bN bz hb;(try clear hb);(try clear aV);(try clear hk);(try clear hi);have k7:=Y.out;have k8:=X.out;have k9:=I.out;have lb:=E.out;have lc:=K.out;have lf:=J.out;obtain⟨gi,gj,gl,gm⟩:=cz2 (W:=jA) M))
         go_ret
         exact⟨by first|exact ez|(simp only[←aK,←an];exact ez),bz⟩
        subst cG
        replace H:=hT H
        by_cases ci:aT=0
        case neg=>
         replace H:=hN H ci
         obtain⟨ds,dt⟩:=eF ci
         obtain rfl:=Option.some.inj H
         have kI:=aO.out
         have kJ:=aN.out
         have kK:=aw.out
         have kL:=aH.out
         have kM:=O.out
         have kO:=U.out
         have kP:=Z.out
         have kQ:=aa.out
         obtain⟨f4,f5,f6,f7⟩:=cz2 (W:=wc) ae
         go_wp2_with (first|((with_reducible refine zac (f:=33) rfl ?_);refine gB Tryz.func33 (zaQ.calls aU ao ap aL ac ad aT _ b6.out) ?_ (hargs:=by(try simp only[List.map_toArray,List.map_cons,List.map_nil]);first|done|(simp only[an];rfl)|rfl|(simp only[List.length_drop,List.length_take];rfl));intro jz hb;replace al:=kN (g:=ai) (cs:=#[.int .u64 ay,.bool az]) hb bk;replace ae:=kN (g:=ax) (cs:=#[.string ao,.int .i64 ap]) hb bk;replace am:=kN (g:=ar) (cs:=#[.bool aA,.bool aB,.bool aC,.bool aD,.bool aE,.int .i64 aF,.int .i64 aL,.int .i32 av]) hb bk;replace ab:=kN (g:=aM) (cs:=#[.string A,.int .i64 B]) hb bk;replace M:=kN (g:=aP) (cs:=#[.string af,.int .i64 ag]) hb bk;replace HB:=bN bz hb;(try clear hb);(try clear aV);(try clear hk);(try clear hi);have kR:=Y.out;have kS:=X.out;have kT:=I.out;have kU:=E.out;have kV:=K.out;have kW:=J.out;obtain⟨f8,f9,ga,gb⟩:=cz2 (W:=jz) M))
         go_ret
         exact⟨by first|exact ez|(simp only[←aK,←an];exact ez),bz⟩
        replace H:=hE H ci
        obtain⟨ds,dt⟩:=eT ci
        clear ci
        by_cases a6:(A.toList==ac.toList&&(B==ad))=true
        ·replace H:=hE H a6
         have du:(A.toList==ac.toList&&(B==ad))=true:=a6
         (try(have dv:decide (A.toList=ac.toList&&(B==ad))=true:=by simpa using a6))
         (try(have dw:(A.toList==ac.toList&&(B==ad))=true:=by simpa using a6))
         clear a6
         replace H:=bs H
         obtain⟨fl,jy,H⟩:=H
         obtain rfl:=Option.some.inj H
         have j1:=aO.out
         have j4:=aN.out
         have j5:=aw.out
         have j6:=aH.out
         have j7:=O.out
         have j8:=U.out
         have j9:=Z.out
         have ka:=aa.out
         obtain⟨fC,fD,fF,fG⟩:=cz2 (W:=wc) ae
         go_wp2_with (first|((with_reducible refine zac (f:=33) rfl ?_);refine gB Tryz.func33 (zaQ.calls aU ao ap aL ac ad aT _ b6.out) ?_ (hargs:=by(try simp only[List.map_toArray,List.map_cons,List.map_nil]);first|done|(simp only[an];rfl)|rfl|(simp only[List.length_drop,List.length_take];rfl));intro em hb;replace al:=kN (g:=ai) (cs:=#[.int .u64 ay,.bool az]) hb bk;replace ae:=kN (g:=ax) (cs:=#[.string ao,.int .i64 ap]) hb bk;replace am:=kN (g:=ar) (cs:=#[.bool aA,.bool aB,.bool aC,.bool aD,.bool aE,.int .i64 aF,.int .i64 aL,.int .i32 av]) hb bk;replace ab:=kN (g:=aM) (cs:=#[.string A,.int .i64 B]) hb bk;replace M:=kN (g:=aP) (cs:=#[.string af,.int .i64 ag]) hb bk;replace HB:=bN bz hb;(try clear hb);(try clear aV);(try clear hk);(try clear hi);have kb:=Y.out;have kc:=X.out;have kf:=I.out;have kg:=E.out;have kh:=K.out;have ki:=J.out;obtain⟨fH,fI,fJ,fK⟩:=cz2 (W:=em) M;have kj:=aJ.out;have kk:=aI.out;have kl:=ak.out;have km:=aj.out;obtain⟨fL,fN,fO,fP⟩:=cz2 (W:=em) ab)|(go_at_call 23;(with_reducible refine(zaH.calls aU fl _ jy.out).mono ?_);rintro e qC ⟨rfl,hb⟩;replace al:=kN (g:=ai) (cs:=#[.int .u64 ay,.bool az]) hb bk;replace ae:=kN (g:=ax) (cs:=#[.string ao,.int .i64 ap]) hb bk;replace am:=kN (g:=ar) (cs:=#[.bool aA,.bool aB,.bool aC,.bool aD,.bool aE,.int .i64 aF,.int .i64 aL,.int .i32 av]) hb bk;replace ab:=kN (g:=aM) (cs:=#[.string A,.int .i64 B]) hb bk;replace M:=kN (g:=aP) (cs:=#[.string ac,.int .i64 ad]) hb bk;replace HB:=bN bz hb;(try clear hb);(try clear aV);(try clear hk);(try clear hi)))
         go_ret
         exact⟨by first|exact ez|(simp only[←aK,←an];exact ez),bz⟩
        replace H:=hN H a6
        have du:(A.toList==ac.toList&&(B==ad))=false:=by simpa using a6
        (try(have dv:decide (A.toList=ac.toList&&(B==ad))=false:=by simpa using a6))
        (try(have dw:(A.toList==ac.toList&&(B==ad))=false:=by simpa using a6))
        (try(have kn: ¬(A.toList=ac.toList&&(B==ad)):=by simpa using a6))
        clear a6
        obtain rfl:=Option.some.inj H
        have ko:=aO.out
        have kp:=aN.out
        have kr:=aw.out
        have kt:=aH.out
        have ku:=O.out
        have kv:=U.out
        have kw:=Z.out
        have kx:=aa.out
        obtain⟨fQ,fR,fS,fT⟩:=cz2 (W:=wc) ae
        go_wp2_with (first|((with_reducible refine zac (f:=33) rfl ?_);refine gB Tryz.func33 (zaQ.calls aU ao ap aL ac ad aT _ b6.out) ?_ (hargs:=by(try simp only[List.map_toArray,List.map_cons,List.map_nil]);first|done|(simp only[an];rfl)|rfl|(simp only[List.length_drop,List.length_take];rfl));intro en hb;replace al:=kN (g:=ai) (cs:=#[.int .u64 ay,.bool az]) hb bk;replace ae:=kN (g:=ax) (cs:=#[.string ao,.int .i64 ap]) hb bk;replace am:=kN (g:=ar) (cs:=#[.bool aA,.bool aB,.bool aC,.bool aD,.bool aE,.int .i64 aF,.int .i64 aL,.int .i32 av]) hb bk;replace ab:=kN (g:=aM) (cs:=#[.string A,.int .i64 B]) hb bk;replace M:=kN (g:=aP) (cs:=#[.string af,.int .i64 ag]) hb bk;replace HB:=bN bz hb;(try clear hb);(try clear aV);(try clear hk);(try clear hi);have ky:=Y.out;have kz:=X.out;have kA:=I.out;have kB:=E.out;have kC:=K.out;have kD:=J.out;obtain⟨fU,fV,fX,fY⟩:=cz2 (W:=en) M;have kE:=aJ.out;have kF:=aI.out;have kG:=ak.out;have kH:=aj.out;obtain⟨fZ,f0,f2,f3⟩:=cz2 (W:=en) ab))
        go_ret
        exact⟨by first|exact ez|(simp only[←aK,←an];exact ez),bz⟩
       replace H:=hE H di
       obtain⟨fb,fc⟩:=eT di
       clear di
       have p0:=aO.out
       have p1:=aN.out
       have p5:=aw.out
       have p6:=aH.out
       have p7:=O.out
       have p8:=U.out
       have p9:=Z.out
       have qa:=aa.out
       obtain⟨jh,ji,jj,jk⟩:=cz2 (W:=wc) ae
       go_upto_if 139 with(first|((with_reducible refine zac (f:=33) rfl ?_);refine gB Tryz.func33 (zaQ.calls aU ao ap aL ac ad aT _ b6.out) ?_ (hargs:=by(try simp only[List.map_toArray,List.map_cons,List.map_nil]);first|done|(simp only[an];rfl)|rfl|(simp only[List.length_drop,List.length_take];rfl));intro dj hb;replace al:=kN (g:=ai) (cs:=#[.int .u64 ay,.bool az]) hb bk;replace ae:=kN (g:=ax) (cs:=#[.string ao,.int .i64 ap]) hb bk;replace am:=kN (g:=ar) (cs:=#[.bool aA,.bool aB,.bool aC,.bool aD,.bool aE,.int .i64 aF,.int .i64 aL,.int .i32 av]) hb bk;replace ab:=kN (g:=aM) (cs:=#[.string A,.int .i64 B]) hb bk;replace M:=kN (g:=aP) (cs:=#[.string af,.int .i64 ag]) hb bk;replace HB:=bN bz hb;(try clear hb);(try clear aV);(try clear hk);(try clear hi);have qb:=Y.out;have qc:=X.out;have qd:=I.out;have qe:=E.out;have qf:=K.out;have qg:=J.out;obtain⟨jl,jm,jn,jo⟩:=cz2 (W:=dj) M))
       (try simp only[Act.put,List.setIfInBounds_toArray,List.set_cons_zero,List.set_cons_succ])
       by_cases dk:(D.size:Int)=aY
       case neg=>
        replace H:=hN H dk
        obtain⟨cD,cF⟩:=eF dk
        try first|rw[cD]|rw[cF]
        obtain rfl:=Option.some.inj H
        go_wp2
        go_ret
        exact⟨by first|exact ez|(simp only[←aK,←an];exact ez),bz⟩
       replace H:=hE H dk
       obtain⟨cD,cF⟩:=eT dk
       clear dk
       try first|rw[cD]|rw[cF]
       by_cases dq:aW=true
       case neg=>
        replace dq:=Bool.eq_false_iff.mpr dq
        subst dq
        replace H:=hF H
        obtain rfl:=Option.some.inj H
        go_wp2
        go_ret
        exact⟨by first|exact ez|(simp only[←aK,←an];exact ez),bz⟩
       subst dq
       replace H:=hT H
       by_cases dl:aT=0
       case neg=>
        replace H:=hN H dl
        obtain⟨fe,fg⟩:=eF dl
        obtain rfl:=Option.some.inj H
        go_wp2
        go_ret
        exact⟨by first|exact ez|(simp only[←aK,←an];exact ez),bz⟩
       replace H:=hE H dl
       obtain⟨fe,fg⟩:=eT dl
       clear dl
       by_cases b7:(A.toList==ac.toList&&(B==ad))=true
       ·replace H:=hE H b7
        have fh:(A.toList==ac.toList&&(B==ad))=true:=b7
        (try(have fi:decide (A.toList=ac.toList&&(B==ad))=true:=by simpa using b7))
        (try(have fj:(A.toList==ac.toList&&(B==ad))=true:=by simpa using b7))
        clear b7
        replace H:=bs H
        obtain⟨fk,qh,H⟩:=H
        obtain rfl:=Option.some.inj H
        have qi:=aJ.out
        have qj:=aI.out
        have qk:=U.out
        have ql:=O.out
        have qm:=ak.out
        have qn:=aj.out
        have qo:=J.out
        have qp:=K.out
        obtain⟨jp,jq,jr,js⟩:=cz2 (W:=dj) ab
        have qq:=Y.out
        have qs:=X.out
        have qt:=aa.out
        have qu:=Z.out
        have qv:=I.out
        have qw:=E.out
        obtain⟨jt,ju,jv,jw⟩:=cz2 (W:=dj) M
        go_wp2_with (first|(go_at_call 23;(with_reducible refine(zaH.calls aU fk _ qh.out).mono ?_);rintro e qP ⟨rfl,hb⟩;replace al:=kN (g:=ai) (cs:=#[.int .u64 ay,.bool az]) hb bk;replace ae:=kN (g:=ax) (cs:=#[.string ao,.int .i64 ap]) hb bk;replace am:=kN (g:=ar) (cs:=#[.bool aA,.bool aB,.bool aC,.bool aD,.bool aE,.int .i64 aF,.int .i64 aL,.int .i32 av]) hb bk;replace ab:=kN (g:=aM) (cs:=#[.string A,.int .i64 B]) hb bk;replace M:=kN (g:=aP) (cs:=#[.string ac,.int .i64 ad]) hb bk;replace HB:=bN bz hb;(try clear hb);(try clear aV);(try clear hk);(try clear hi)))
        go_ret
        exact⟨by first|exact ez|(simp only[←aK,←an];exact ez),bz⟩
       replace H:=hN H b7
       have fh:(A.toList==ac.toList&&(B==ad))=false:=by simpa using b7
       (try(have fi:decide (A.toList=ac.toList&&(B==ad))=false:=by simpa using b7))
       (try(have fj:(A.toList==ac.toList&&(B==ad))=false:=by simpa using b7))
       (try(have qx: ¬(A.toList=ac.toList&&(B==ad)):=by simpa using b7))
       clear b7
       obtain rfl:=Option.some.inj H
       have jM:=aJ.out
       have jN:=aI.out
       have jO:=U.out
       have jP:=O.out
       have jQ:=ak.out
       have jR:=aj.out
       have jS:=J.out
       have jT:=K.out
       obtain⟨ft,fu,fv,fw⟩:=cz2 (W:=dj) ab
       have jU:=Y.out
       have jV:=X.out
       have jW:=aa.out
       have jX:=Z.out
       have jY:=I.out
       have jZ:=E.out
       obtain⟨fx,fy,fz,fA⟩:=cz2 (W:=dj) M
       go_wp2
       go_ret
       exact⟨by first|exact ez|(simp only[←aK,←an];exact ez),bz⟩
end Go.Proofs.YtecpgdfnamkfdaaGreatDoor.Fn
end
