/- The law CplxBack: the walks through its functions and its plain law (part 4). Own texts and the kit's printed words for this seat, without what the law does not use: put together by merge.py (of this work). -/
import Derived.Test.YtecpgdfnamkfdaaGreatDoorMCplxBack3
import Derived.Handy
section
namespace Go.Proofs.YtecpgdfnamkfdaaGreatDoor.Pure
open Go.RowKit Go.Proofs.YtecpgdfnamkfdaaGreatDoorW.PrintWords Go.Proofs.YtecpgdfnamkfdaaGreatDoorW.PrintLast Go.Proofs.YtecpgdfnamkfdaaGreatDoorW.PrintMore Go.Proofs.YtecpgdfnamkfdaaGreatDoor.Fn
set_option linter.unusedVariables false
set_option linter.unusedSimpArgs false
structure Near (v : List UInt8 × Int) : Prop where
  form : InForm v.1 v.2
  len : v.1.length ≤ 1300
  lo : -2600 ≤ v.2
  hi : v.2 ≤ 1400
theorem Near.five{v:List UInt8×Int}(h:Near v):v.1.length≤2000∧ -5000≤v.2∧v.2≤5000:=by
  have:=h.len
  have:=h.lo
  have:=h.hi
  omega
theorem zce{m:Nat}(hm:m<18446744073709551616){e:Int}(h: -1200≤e∧e≤1200):Near (exD m e):=by
  have h1:=zcm hm h
  exact⟨zcC m e,h1.1,by omega,by omega⟩
theorem zds(b s:Int){m:Nat}(hm:m<18446744073709551616){e:Int}(h: -1200≤e∧e≤1200)(prec v:Int)(dot:Bool):
    Ev (fun k=>zaT.f k b s (m:Int) e prec dot v) (S (exD m e).1,(exD m e).2):=by
  have hx:=zcA m e hm
  rw[zb7 m h] at hx
  unfold zaT.f
  exact Ev.bind hx (Ev.now _)
theorem zef{v:List UInt8×Int}(h:Near v)(n:Int):Ev (fun k=>za6.f k (S v.1) v.2 n) (S (roundN v.1 v.2 n).1,(roundN v.1 v.2 n).2,0):=by
  have hr:=zeN (S v.1) v.2 n
  have h5:=h.five
  unfold roundS at hr
  rw[zbV h.form h5.1 h5.2,if_pos rfl] at hr
  simp only[L_S] at hr
  exact hr
theorem zfL{v:List UInt8×Int}(h:Near v){n:Int}(hn: -20000≤n∧n≤20000):Ev (fun k=>zbp.f k (S v.1) v.2 n) (S (roundN v.1 v.2 (v.2+n)).1,(roundN v.1 v.2 (v.2+n)).2,0):=by
  have hr:=zgs (S v.1) v.2 n
  have h5:=h.five
  unfold roundS at hr
  rw[zbV h.form h5.1 h5.2,if_pos rfl,show max (-20000) (min n 20000)=n by omega] at hr
  simp only[L_S] at hr
  exact hr
theorem zbI{v:List UInt8×Int}(h:InForm v.1 v.2)(n:Int):InForm (roundN v.1 v.2 n).1 (roundN v.1 v.2 n).2:=by
  unfold roundN
  split
  · exact⟨AllD.nil,fun c t e=>(by cases e),rfl,fun _=>rfl⟩
  · split
    · exact h
    · split<;>exact zbc _ _
theorem zbN{v:List UInt8×Int}(h:Near v)(n:Int):(roundN v.1 v.2 n).1.length≤1300∧ -4000≤(roundN v.1 v.2 n).2∧(roundN v.1 v.2 n).2≤1500:=by
  have h1:=h.len
  have h2:=h.lo
  have h3:=h.hi
  unfold roundN
  by_cases c1:n<0
  · rw[if_pos c1];exact⟨Nat.zero_le _,by decide,by decide⟩
  · rw[if_neg c1]
    by_cases c2:(v.1.length:Int)≤n
    · rw[if_pos c2];exact⟨h1,by omega,by omega⟩
    · rw[if_neg c2]
      have hn:n.toNat<v.1.length:=by omega
      have hv:=zcz (h.form.1.take n.toNat)
      rw[List.length_take,Nat.min_eq_left (Nat.le_of_lt hn)] at hv
      have hp:10^n.toNat≤10^(n.toNat+1):=Nat.pow_le_pow_right (by decide) (Nat.le_succ _)
      have b1:=zbT (n:=val (v.1.take n.toNat)) (m:=n.toNat+1) (by omega) (v.2-n)
      have A:10^n.toNat+1≤10^(n.toNat+1):=by
        rw[Nat.pow_succ]
        have:1≤10^n.toNat:=Nat.pow_pos (by decide)
        omega
      have b2:=zbT (n:=val (v.1.take n.toNat)+1) (m:=n.toNat+1) (by omega) (v.2-n)
      split
      · exact⟨by omega,by omega,by omega⟩
      · exact⟨by omega,by omega,by omega⟩
theorem zex{l:List UInt8}{n:Int}(h:1≤n):fillL l n≠[]:=by
  intro e
  have:=zbg l n
  rw[e] at this
  simp at this
  omega
theorem zb8{d:List UInt8×Int}(h: -4000≤d.2∧d.2≤1500): -4001≤firstL d∧firstL d≤1500:=by
  unfold firstL
  split<;>omega
def six(prec:Int):Int:=if prec<0 then 6 else prec
theorem zhc(b s:Int){m:Nat}(hm:m<18446744073709551616){e:Int}(h: -1200≤e∧e≤1200){prec:Int}(hp: -1≤prec∧prec≤1000)(v:Int)(dot:Bool):
    Ev (fun k=>zam.f k b s (m:Int) e prec dot v) (S (scaledL dot (bigV v) (exD m e) (six prec))):=by
  have hx:=zce hm h
  have key: ∀p:Int,0≤p→p≤1000→Ev (fun k=>zam.j0 k p b s (m:Int) e prec dot v) (S (scaledL dot (bigV v) (exD m e) p)):=by
    intro p p0 p1
    have hb:=zbN hx (p+1)
    have hfl:=zbg (roundN (exD m e).1 (exD m e).2 (p+1)).1 (p+1)
    have hfb:=zb8 (d:=roundN (exD m e).1 (exD m e).2 (p+1)) hb.2
    refine Ev.step (fun k=>by simp only[zam.j0];rfl) ?_
    refine Ev.bind (zds b s hm h prec v dot) ?_
    rw[w64 (x:=p+1) (by omega) (by omega)]
    refine Ev.bind (zef hx (p+1)) ?_
    unfold scaledL
    generalize roundN (exD m e).1 (exD m e).2 (p+1)=d at*
    obtain⟨l,q⟩:=d
    dsimp only at hb hfl hfb ⊢
    rw[zb0 (by omega) (by omega)]
    simp only[Option.bind_some]
    rw[zdU _ (by omega)]
    simp only[Option.bind_some]
    exact Ev.bind (zg4 b s (m:Int) e prec v dot (zex (by omega)) (by omega) (by omega)) (Ev.now _)
  unfold zam.f six
  by_cases c:prec<0
  · rw[if_pos c]
    exact Ev.congr (fun k=>if_pos c) (key 6 (by decide) (by decide))
  · rw[if_neg c]
    exact Ev.congr (fun k=>if_neg c) (key prec (by omega) hp.2)
theorem zhS(b s:Int){m:Nat}(hm:m<18446744073709551616){e:Int}(h: -1200≤e∧e≤1200){prec:Int}(hp: -1≤prec∧prec≤1000)(v:Int)(dot:Bool):
    Ev (fun k=>zak.f k b s (m:Int) e prec dot v) (S (fixedL dot (exD m e) (six prec))):=by
  have hx:=zce hm h
  have key: ∀p:Int,0≤p→p≤1000→Ev (fun k=>zak.j0 k p b s (m:Int) e prec dot v) (S (fixedL dot (exD m e) p)):=by
    intro p p0 p1
    have hb:=zbN hx ((exD m e).2+p)
    refine Ev.step (fun k=>by simp only[zak.j0];rfl) ?_
    refine Ev.bind (zds b s hm h prec v dot) ?_
    refine Ev.bind (zfL hx (by omega)) ?_
    unfold fixedL
    generalize roundN (exD m e).1 (exD m e).2 ((exD m e).2+p)=d at*
    obtain⟨l,q⟩:=d
    dsimp only at hb ⊢
    by_cases c1:l=[]
    · refine Ev.congr (fun k=>if_pos ((zbE l).2 c1)) ?_
      rw[if_pos c1,zcc (by omega) (by omega)]
      simp only[Option.bind_some]
      rw[show(⟨#[48]⟩:ByteArray)=S [48] from rfl,zbQ _ _ _ _ _ _ _ (by rw[zbk];simp;omega)]
      exact Ev.now _
    · refine Ev.congr (fun k=>if_neg (fun e=>c1 ((zbE l).1 e))) ?_
      rw[if_neg c1]
      by_cases c2:q≤0
      · refine Ev.congr (fun k=>if_pos c2) ?_
        rw[if_pos c2,w64 (x:= -q) (by omega) (by omega),zcc (by omega) (by omega)]
        simp only[Option.bind_some]
        refine Ev.congr (fun k=>if_pos (by rw[zaw,zaw,zbk];omega)) ?_
        have hfl:=zbg (zsL (-q).toNat++l) p
        rw[List.length_append,zbk] at hfl
        rw[zbq,zb0 (by rw[List.length_append,zbk];omega) (by omega)]
        simp only[Option.bind_some]
        rw[show(⟨#[48]⟩:ByteArray)=S [48] from rfl,zbQ _ _ _ _ _ _ _ (by simp;omega)]
        exact Ev.now _
      · refine Ev.congr (fun k=>if_neg c2) ?_
        have hfl:=zbg l (q+p)
        rw[if_neg c2,w64 (x:=q+p) (by omega) (by omega),zb0 (by omega) (by omega)]
        simp only[Option.bind_some]
        rw[zeQ _ _ _ _ _ _ _ (by omega) (by omega)]
        exact Ev.now _
  unfold zak.f six
  by_cases c:prec<0
  · rw[if_pos c]
    exact Ev.congr (fun k=>if_pos c) (key 6 (by decide) (by decide))
  · rw[if_neg c]
    exact Ev.congr (fun k=>if_neg c) (key prec (by omega) hp.2)
theorem zfs(b s m e prec v:Int)(dot:Bool){d:List UInt8×Int}(hd:d.1.length≤2000∧ -4000≤d.2∧d.2≤1500){keep top:Int}(hk:1≤keep∧keep≤1000):
    Ev (fun k=>zaf.j0 k top keep b s m e prec dot v (S d.1) d.2) (S (genL dot (bigV v) d keep top)):=by
  obtain⟨l,q⟩:=d
  dsimp only at hd ⊢
  have hfb:=zb8 (d:=(l,q)) hd.2
  have h3: ∀(x:List UInt8),x≠[]→x.length≤5000→Ev (fun k=>zaf.j2 k top (S x) b s m e prec dot v (S l) q) (S (if firstL (l,q)< -4∨firstL (l,q)≥top then sciL dot (bigV v) x (firstL (l,q)) else aroundL dot x (firstL (l,q)+1))):=by
    intro x hx hxl
    refine Ev.step (fun k=>by simp only[zaf.j2];rfl) ?_
    rw[zdU l (by omega)]
    simp only[Option.bind_some]
    obtain⟨z,hzz⟩: ∃z,firstL (l,q)=z:=⟨_,rfl⟩
    rw[hzz] at hfb ⊢
    have hs:Ev (fun k=>zaf.j3 k (S x) z true b s m e prec dot v (S l) q) (S (sciL dot (bigV v) x z)):=by
      refine Ev.step (fun k=>by simp only[zaf.j3];rfl) ?_
      refine Ev.congr (fun k=>if_pos trivial) ?_
      exact Ev.bind (zg4 b s m e prec v dot hx (by omega) (by omega)) (Ev.now _)
    by_cases c1:z< -4
    · rw[if_pos (.inl c1)]
      exact Ev.congr (fun k=>if_pos c1) hs
    · refine Ev.congr (fun k=>if_neg c1) ?_
      by_cases c2:z≥top
      · rw[if_pos (.inr c2),decide_eq_true c2]
        exact hs
      · rw[if_neg (by omega),decide_eq_false c2]
        refine Ev.step (fun k=>by simp only[zaf.j3];rfl) ?_
        refine Ev.congr (fun k=>if_neg (by simp)) ?_
        rw[zdU l (by omega)]
        simp only[Option.bind_some]
        have hz: -100000≤firstL (l,q)+1∧firstL (l,q)+1≤100000:=by have:=zb8 (d:=(l,q)) hd.2;omega
        rw[w64 (x:=firstL (l,q)+1) (by omega) (by omega),zeQ b s m e prec v dot (by omega) hz,hzz]
        exact Ev.now _
  have h2: ∀(x:List UInt8),x≠[]→x.length≤2000→Ev (fun k=>zaf.j1 k top keep (S x) b s m e prec dot v (S l) q) (S (if firstL (l,q)< -4∨firstL (l,q)≥top then sciL dot (bigV v) (if dot then fillL x keep else x) (firstL (l,q)) else aroundL dot (if dot then fillL x keep else x) (firstL (l,q)+1))):=by
    intro x hx hxl
    refine Ev.step (fun k=>by simp only[zaf.j1];rfl) ?_
    cases dot with
    |true=>
      refine Ev.congr (fun k=>if_pos rfl) ?_
      have hfl:=zbg x keep
      rw[zb0 (by omega) (by omega)]
      simp only[Option.bind_some]
      exact h3 _ (zex hk.1) (by omega)
    |false=>
      refine Ev.congr (fun k=>if_neg (by simp)) ?_
      exact h3 x hx (by omega)
  refine Ev.step (fun k=>by simp only[zaf.j0];rfl) ?_
  unfold genL
  dsimp only
  by_cases c:l=[]
  · refine Ev.congr (fun k=>if_pos ((zbE l).2 c)) ?_
    rw[if_pos c]
    exact h2 [48] (by simp) (by simp)
  · refine Ev.congr (fun k=>if_neg (fun e=>c ((zbE l).1 e))) ?_
    rw[if_neg c]
    exact h2 l c hd.1
def shortL(wide:Bool)(p:Nat):List UInt8×Int:=if p=0 then([],0) else shortD wide p
def genOf(wide:Bool)(p:Nat)(m:Nat)(e prec:Int)(dot big:Bool):List UInt8:=
  if prec<0 then genL dot big (shortL wide p) 6 21 else genL dot big (roundN (exD m e).1 (exD m e).2 (max prec 1)) (max prec 1) (max prec 1)
theorem zjm(wide:Bool){a p:Nat}(ha:a<18446744073709551616)(hb:bareN wide a=p)(hp:p<ii wide)(hs:(shortL wide p).1.length≤2000∧ -4000≤(shortL wide p).2∧(shortL wide p).2≤1500){m:Nat}(hm:m<18446744073709551616){e:Int}(h: -1200≤e∧e≤1200){prec:Int}(hq: -1≤prec∧prec≤1000)(v:Int)(dot:Bool):
    Ev (fun k=>zaf.f k (a:Int) (szB wide) (m:Int) e prec dot v) (S (genOf wide p m e prec dot (bigV v))):=by
  unfold zaf.f genOf
  by_cases c:prec<0
  · rw[if_pos c]
    refine Ev.congr (fun k=>if_pos c) ?_
    have hx:=zfK wide a ha
    have e1:shortS wide a=(S (shortL wide p).1,(shortL wide p).2,0):=by
      unfold shortS shortL
      rw[hb,if_neg (by omega)]
      split<;>rfl
    rw[e1] at hx
    refine Ev.bind hx ?_
    exact zfs _ _ _ _ _ v dot hs (by decide)
  · rw[if_neg c]
    refine Ev.congr (fun k=>if_neg c) ?_
    have hn:=zce hm h
    have hbd:=zbN hn (max prec 1)
    refine Ev.bind (zds _ _ hm h prec v dot) ?_
    rw[zcL]
    refine Ev.bind (zef hn (max prec 1)) ?_
    exact zfs _ _ _ _ _ v dot (by omega) (by omega)
theorem zft(x j:Nat)(hj:j≤64):shl .u64 (x:Int) (j:Int)=((x*2^j%18446744073709551616:Nat):Int):=by
  unfold shl
  rw[Int.toNat_natCast,show min j (IntKind.u64.bits)=j from Nat.min_eq_left (by simpa [IntKind.bits] using hj),IntKind.wrap_u64]
  rw[show((2:Int)^j)=((2^j:Nat):Int) by simp]
  generalize 2^j=P
  rw[←Int.natCast_mul]
  generalize x*P=y
  omega
def hexEnd(dot up:Bool)(lead ds:List UInt8)(x:Int):List UInt8:=
  if up then Lib.toUpperA ([48,120]++(ptL dot lead ds++powL [112] x 2)) else [48,120]++(ptL dot lead ds++powL [112] x 2)
theorem zcP(b s m e prec v:Int)(dot:Bool){lead ds:List UInt8}{x:Int}(hl:lead.length≤10∧Asc lead)(hd:ds.length≤2000∧Asc ds)(hx: -100000≤x∧x≤100000):
    Ev (fun k=>zac.j4 k (S lead) x (S ds) b s m e prec dot v) (S (hexEnd dot (v==88) lead ds x)):=by
  have h1:=zb1 dot lead ds
  have h2:=zcd ([112]:List UInt8) (e:=x) (least:=2) (by decide)
  have ha:Asc ([48,120]++(ptL dot lead ds++powL [112] x 2)):=Asc.app (by decide) ((zcb hl.2 hd.2 dot).app (zdc (by decide) x 2))
  refine Ev.step (fun k=>by simp only[zac.j4];rfl) ?_
  rw[zbQ b s m e prec v dot (by omega)]
  simp only[Option.bind_some]
  rw[show(⟨#[112]⟩:ByteArray)=S [112] from rfl,zdT (by decide) hx (by decide)]
  simp only[Option.bind_some]
  rw[show(⟨#[48,120]⟩:ByteArray)=S [48,120] from rfl,zfZ (by simp at h2 ⊢;omega)]
  simp only[Option.bind_some]
  unfold hexEnd
  by_cases c:v=88
  · refine Ev.congr (fun k=>if_pos c) ?_
    rw[show(v==88)=true from beq_iff_eq.mpr c,if_pos rfl]
    have hu:zbf.f (S ([48,120]++(ptL dot lead ds++powL [112] x 2)))=some (S (Lib.toUpperA ([48,120]++(ptL dot lead ds++powL [112] x 2)))):=by
      unfold zbf.f
      rw[if_pos ⟨by rw[zaw];simp at h2 ⊢;omega,List.all_eq_true.2 (fun c hc=>decide_eq_true (ha c hc))⟩]
      rfl
    rw[hu]
    exact Ev.now _
  · refine Ev.congr (fun k=>if_neg c) ?_
    rw[show(v==88)=false from beq_eq_false_iff_ne.mpr c,if_neg (by simp)]
    exact Ev.now _
def hexUp(lead:List UInt8)(part p:Nat):Prop:=
  9223372036854775808<part*2^(4*p)%18446744073709551616∨(part*2^(4*p)%18446744073709551616=9223372036854775808∧(part / 2^(64-4*p)%2=1∨(p=0∧lead=[49])))
instance (lead : List UInt8) (part p : Nat) : Decidable (hexUp lead part p) := by unfold hexUp; infer_instance
def hexKept(lead:List UInt8)(part p:Nat):Nat:=if hexUp lead part p then part / 2^(64-4*p)+1 else part / 2^(64-4*p)
def hexMid(dot up:Bool)(lead:List UInt8)(part p:Nat)(x:Int):List UInt8:=
  let over:=0<hexKept lead part p / 2^(4*p)
  hexEnd dot up lead (if p=0 then [] else(sixL (if over then 0 else hexKept lead part p*2^(64-4*p)%18446744073709551616)).take p) (if over then x+1 else x)
def hexTail(dot up:Bool)(lead:List UInt8)(part:Nat)(x prec:Int):List UInt8:=
  if prec<0 then hexEnd dot up lead (rz (sixL part)) x else if prec≥16 then hexEnd dot up lead (fillL (sixL part) prec) x else hexMid dot up lead part prec.toNat x
def hexL(m:Nat)(e prec:Int)(dot up:Bool):List UInt8:=
  if m=0 then hexTail dot up [48] 0 0 prec else hexTail dot up [49] (m*2^(64-Lib.bitLen m)%18446744073709551616*2%18446744073709551616) (e+Lib.bitLen m-1) prec
theorem zcx(n:Nat):Asc (sixL n):=(zcw _).app (zfi (by decide) n)
theorem zhd{l:List UInt8}(h:Asc l):Asc (rz l):=by
  obtain⟨k,hk⟩:=zck l
  intro c hc
  exact h c (by rw[hk];exact List.mem_append_left _ hc)
theorem zhe(l:List UInt8):(rz l).length≤l.length:=zbZ l
theorem zeg(b s m e v:Int)(dot:Bool){lead:List UInt8}(hl:lead=[48]∨lead=[49]){part:Nat}(hp:part≤18446744073709551615){x:Int}(hx: -90000≤x∧x≤90000){prec:Int}(hq: -1≤prec∧prec≤1000):
    Ev (fun k=>zac.j0 k (S lead) (part:Int) x b s m e prec dot v) (S (hexTail dot (v==88) lead part x prec)):=by
  have A:lead.length≤10∧Asc lead:=by rcases hl with rfl|rfl<;>exact⟨by decide,by decide⟩
  have hsl:=zdV hp
  refine Ev.step (fun k=>by simp only[zac.j0];rfl) ?_
  unfold hexTail
  by_cases c1:prec<0
  · refine Ev.congr (fun k=>if_pos c1) ?_
    rw[if_pos c1,zfl hp]
    simp only[Option.bind_some]
    have hr:=zhe (sixL part)
    rw[trimR _ (by rw[zaw];omega),L_S]
    simp only[Option.bind_some]
    exact zcP b s m e prec v dot A ⟨by omega,zhd (zcx _)⟩ (by omega)
  · refine Ev.congr (fun k=>if_neg c1) ?_
    rw[if_neg c1]
    by_cases c2:prec≥16
    · refine Ev.congr (fun k=>if_pos c2) ?_
      have hfl:=zbg (sixL part) prec
      rw[if_pos c2,zfl hp]
      simp only[Option.bind_some]
      rw[zb0 (by omega) (by omega)]
      simp only[Option.bind_some]
      exact zcP b s m e prec v dot A ⟨by omega,zbD (zcx _) _⟩ (by omega)
    · refine Ev.congr (fun k=>if_neg c2) ?_
      rw[if_neg c2]
      obtain⟨p,rfl⟩: ∃p:Nat,prec=p:=⟨prec.toNat,by omega⟩
      rw[Int.toNat_natCast]
      have O:p<16:=by omega
      have w1:IntKind.u64.wrap (wrap64 (64-wrap64 (4*(p:Int))))=((64-4*p:Nat):Int):=by
        rw[w64 (x:=4*(p:Int)) (by omega) (by omega),w64 (by omega) (by omega),show(64-4*(p:Int))=((64-4*p:Nat):Int) by omega]
        exact u64c _ (by omega)
      have w2:IntKind.u64.wrap (64-((64-4*p:Nat):Int))=((4*p:Nat):Int):=by
        rw[show(64-((64-4*p:Nat):Int))=((4*p:Nat):Int) by omega]
        exact u64c _ (by omega)
      rw[w1,w2]
      refine Ev.congr (fun k=>if_pos (by omega)) ?_
      have hlow: ∀low:Int,low=((part*2^(4*p)%18446744073709551616:Nat):Int)→Ev (fun k=>zac.j1 k (S lead) (part:Int) x (⟨#[]⟩:ByteArray) ((64-4*p:Nat):Int) low b s m e (p:Int) dot v) (S (hexMid dot (v==88) lead part p x)):=by
        intro low hlo
        have hkb:part / 2^(64-4*p)≤18446744073709551615:=Nat.le_trans (Nat.div_le_self _ _) hp
        have J:part / 2^(64-4*p)<2^(4*p):=by
          refine Nat.div_lt_of_lt_mul ?_
          rw[←Nat.pow_add,show 64-4*p+4*p=64 by omega]
          omega
        have hpw:2^(4*p)≤2^60:=Nat.pow_le_pow_right (by decide) (by omega)
        have X:(2:Nat)^60=1152921504606846976:=by decide
        have hsh:=zed part (64-4*p) (by omega)
        have key: ∀u:Bool,u=decide (hexUp lead part p)→Ev (fun k=>zac.j3 k (S lead) x (⟨#[]⟩:ByteArray) ((64-4*p:Nat):Int) ((part / 2^(64-4*p):Nat):Int) u b s m e (p:Int) dot v) (S (hexMid dot (v==88) lead part p x)):=by
          intro u hu
          unfold hexMid hexKept
          dsimp only
          have fin: ∀(kk:Nat) (y:Int),kk≤18446744073709551615→ -90001≤y∧y≤90001→
              Ev (fun k=>if(p:Int)>0 then(if 0≤((64-4*p:Nat):Int) then((zaR.f (shl .u64 (kk:Int) ((64-4*p:Nat):Int))).bind fun B=>(if 0≤(p:Int) then(if(p:Int)≤(B.size:Int) then(zac.j4 k (S lead) y (B.extract 0 ((p:Int)).toNat) b s m e (p:Int) dot v) else none) else none)) else none) else(zac.j4 k (S lead) y (⟨#[]⟩:ByteArray) b s m e (p:Int) dot v))
                (S (hexEnd dot (v==88) lead (if p=0 then [] else(sixL (kk*2^(64-4*p)%18446744073709551616)).take p) y)):=by
            intro kk y hkk hy
            by_cases c0:p=0
            · subst c0
              exact Ev.congr (fun k=>if_neg (by decide)) (zcP (ds:=[]) b s m e _ v dot A ⟨by decide,Asc.nil⟩ (by omega))
            · have D:kk*2^(64-4*p)%18446744073709551616≤18446744073709551615:=by omega
              have U:=zdV D
              refine Ev.congr (fun k=>if_pos (by omega)) ?_
              refine Ev.congr (fun k=>if_pos (by omega)) ?_
              rw[zft kk (64-4*p) (by omega),zfl D]
              simp only[Option.bind_some]
              refine Ev.congr (fun k=>if_pos (by omega)) ?_
              refine Ev.congr (fun k=>if_pos (by rw[zaw];omega)) ?_
              rw[Int.toNat_natCast,zb3,if_neg c0]
              exact zcP b s m e _ v dot A ⟨by rw[List.length_take];omega,(zcx _).take p⟩ (by omega)
          refine Ev.step (fun k=>by simp only[zac.j3];rfl) ?_
          by_cases cu:hexUp lead part p
          · have E:u=true:=by rw[hu];exact decide_eq_true cu
            subst E
            rw[if_pos cu]
            refine Ev.congr (fun k=>if_pos rfl) ?_
            generalize hK:part / 2^(64-4*p)=K at*
            have I:K+1≤18446744073709551615:=by omega
            have w3:IntKind.u64.wrap ((K:Int)+1)=((K+1:Nat):Int):=by
              rw[show((K:Int)+1)=((K+1:Nat):Int) by omega]
              exact u64c _ I
            rw[w2,w3,zed (K+1) (4*p) (by omega)]
            refine Ev.congr (fun k=>if_pos (by omega)) ?_
            by_cases co:0<(K+1) / 2^(4*p)
            · refine Ev.congr (fun k=>if_pos (by omega)) ?_
              rw[if_pos co,if_pos co,w64 (x:=x+1) (by omega) (by omega)]
              have:=fin 0 (x+1) (by decide) (by omega)
              rw[Nat.zero_mul,Nat.zero_mod] at this
              exact this
            · refine Ev.congr (fun k=>if_neg (by omega)) ?_
              rw[if_neg co,if_neg co]
              exact fin (K+1) x I (by omega)
          · have E:u=false:=by rw[hu];exact decide_eq_false cu
            subst E
            have hz:part / 2^(64-4*p) / 2^(4*p)=0:=Nat.div_eq_of_lt J
            rw[if_neg cu,hz]
            simp only[Nat.lt_irrefl,if_false]
            refine Ev.congr (fun k=>if_neg (by simp)) ?_
            exact fin _ x hkb (by omega)
        have j2: ∀odd:Bool,odd=decide (part / 2^(64-4*p)%2=1∨(p=0∧lead=[49]))→Ev (fun k=>zac.j2 k (S lead) x (⟨#[]⟩:ByteArray) ((64-4*p:Nat):Int) low ((part / 2^(64-4*p):Nat):Int) odd b s m e (p:Int) dot v) (S (hexMid dot (v==88) lead part p x)):=by
          intro odd hodd
          refine Ev.step (fun k=>by simp only[zac.j2];rfl) ?_
          rw[hlo]
          generalize hW:part*2^(4*p)%18446744073709551616=W at*
          by_cases d1:9223372036854775808<W
          · refine Ev.congr (fun k=>if_pos (by omega)) ?_
            exact key true (by rw[eq_comm];refine decide_eq_true ?_;unfold hexUp;rw[hW];exact .inl d1)
          · refine Ev.congr (fun k=>if_neg (by omega)) ?_
            by_cases d2:W=9223372036854775808
            · refine Ev.congr (fun k=>if_pos (by omega)) ?_
              refine key odd ?_
              rw[hodd]
              refine decide_eq_decide.2 ?_
              unfold hexUp
              rw[hW]
              exact⟨fun h=>.inr ⟨d2,h⟩,fun h=>h.elim (fun h=>absurd h d1) (fun h=>h.2)⟩
            · refine Ev.congr (fun k=>if_neg (by omega)) ?_
              exact key false (by rw[eq_comm];refine decide_eq_false ?_;unfold hexUp;rw[hW];rintro(h|h);exact d1 h;exact d2 h.1)
        refine Ev.step (fun k=>by simp only[zac.j1];rfl) ?_
        refine Ev.congr (fun k=>if_pos (by omega)) ?_
        rw[hsh,show Int.tmod ((part / 2^(64-4*p):Nat):Int) 2=((part / 2^(64-4*p)%2:Nat):Int) from tmodN _ 2]
        by_cases d:part / 2^(64-4*p)%2=1
        · refine Ev.congr (fun k=>if_pos (by omega)) ?_
          exact j2 true (by rw[eq_comm];exact decide_eq_true (.inl d))
        · refine Ev.congr (fun k=>if_neg (by omega)) ?_
          by_cases d0:p=0
          · refine Ev.congr (fun k=>if_pos (by omega)) ?_
            refine j2 _ ?_
            rw[zbd,L_S,Bool.eq_iff_iff]
            simp[d0]
            intro h
            subst d0
            exact absurd h d
          · refine Ev.congr (fun k=>if_neg (by omega)) ?_
            exact j2 false (by rw[eq_comm];refine decide_eq_false ?_;rintro(h|h);exact d h;exact d0 h.1)
      by_cases c4:((64-4*p:Nat):Int)=64
      · have M:p=0:=by omega
        refine Ev.congr (fun k=>if_pos c4) ?_
        exact hlow _ (by subst M;simp;omega)
      · refine Ev.congr (fun k=>if_neg c4) ?_
        exact hlow _ (zft part (4*p) (by omega))
theorem bitLen_le: ∀(f x:Nat),Lib.bitLenAux f x≤f
  |0,_=>Nat.le_refl _
  |f+1,x=>by
    unfold Lib.bitLenAux
    split
    · exact Nat.zero_le _
    · have:=bitLen_le f (x / 2);omega
theorem zjn(b s v:Int)(dot:Bool){m:Nat}(hm:m<18446744073709551616){e:Int}(h: -1200≤e∧e≤1200){prec:Int}(hq: -1≤prec∧prec≤1000):
    Ev (fun k=>zac.f k b s (m:Int) e prec dot v) (S (hexL m e prec dot (v==88))):=by
  unfold zac.f hexL
  by_cases c:m=0
  · rw[if_pos c]
    refine Ev.congr (fun k=>if_neg (by omega)) ?_
    exact zeg (lead:=[48]) (part:=0) b s (m:Int) e v dot (.inl rfl) (by decide) (by decide) hq
  · rw[if_neg c]
    refine Ev.congr (fun k=>if_pos (by omega)) ?_
    have hb:=bitLen_le 64 m
    have hL:bits_Len64.f (m:Int)=some (Lib.bitLen m:Int):=by
      unfold bits_Len64.f
      rw[if_pos ⟨by omega,by omega⟩,Int.toNat_natCast]
    rw[hL]
    simp only[Option.bind_some]
    change Lib.bitLen m≤64 at hb
    generalize Lib.bitLen m=n at*
    rw[w64 (x:=64-(n:Int)) (by omega) (by omega)]
    refine Ev.congr (fun k=>if_pos (by omega)) ?_
    rw[show(64-(n:Int))=((64-n:Nat):Int) by omega,zft m (64-n) (by omega),w64 (x:=e+(n:Int)) (by omega) (by omega),w64 (by omega) (by omega)]
    have w:IntKind.u64.wrap (((m*2^(64-n)%18446744073709551616:Nat):Int)*2)=((m*2^(64-n)%18446744073709551616*2%18446744073709551616:Nat):Int):=by
      rw[IntKind.wrap_u64]
      generalize m*2^(64-n)=y
      omega
    rw[w]
    exact zeg (lead:=[49]) b s (m:Int) e v dot (.inr rfl) (by omega) (by omega) hq
end Go.Proofs.YtecpgdfnamkfdaaGreatDoor.Pure
end
section
namespace Go.Proofs.YtecpgdfnamkfdaaGreatDoor.Pure
open Go.RowKit Go.Proofs.YtecpgdfnamkfdaaGreatDoorW.PrintWords Go.Proofs.YtecpgdfnamkfdaaGreatDoor.Fn
set_option linter.unusedVariables false
set_option linter.unusedSimpArgs false
theorem zb9(wide:Bool)(p:Nat)(v:List UInt8×Int)(d n:Nat):shortGo wide p v (d+1) n=(bestD wide p v n).getD (shortGo wide p v d (n+1)):=by
  conv=>lhs;unfold shortGo
  cases bestD wide p v n<;>rfl
theorem wf_u64{a:Int}(h:(Lit.int .u64 a).wf=true): ∃n:Nat,a=n∧n<18446744073709551616:=by
  have h2:0≤a∧a<18446744073709551616:=by
    simp[Lit.wf,IntKind.min,IntKind.max,IntKind.bits,IntKind.signed] at h
    omega
  exact⟨a.toNat,by omega,by omega⟩
theorem zjD(wide:Bool){p:Nat}(hp:p<ii wide):dX wide (val (exV wide p).1) ((exV wide p).2-(exV wide p).1.length)=fW (ff wide) p*(2*CC):=by
  have hv:=zew wide hp
  have h1:=hv.len
  have h2:=hv.lo
  have h3:=zdB
  have hc:=zfJ wide (Nat.le_of_lt hp) (l:=(exV wide p).1) (q:=(exV wide p).2) hv.form (by omega)
  have h0:cmpD (exV wide p).1 (exV wide p).2 (exV wide p).1 (exV wide p).2=0:=by
    unfold cmpD
    exact zeH _
  have A:cmpD (exV wide p).1 (exV wide p).2 (exV wide p).1 (exV wide p).2=cmpN (fW (ff wide) p*(2*CC)) (dX wide (val (exV wide p).1) ((exV wide p).2-(exV wide p).1.length)):=hc
  rw[h0] at A
  exact((zdr _ _).1 A.symm).symm
theorem zhT(wide:Bool){p:Nat}(hp:p<ii wide):rdX wide (fW (ff wide) p*(2*CC))=p:=by
  have hC:=zfn
  have m:=zcT (ze2 (f:=ff wide) (Nat.lt_succ_self p)) hC
  simp only[Nat.succ_eq_add_one] at m
  have hfl:fFloor (ff wide) (ii wide) (fW (ff wide) p*(2*CC)) (2*CC) p:=⟨Nat.le_of_lt hp,Nat.le_refl _,fun _=>Nat.lt_trans m.1 m.2⟩
  rw[zib wide hfl,if_neg (Nat.ne_of_lt hp),if_neg]
  rintro(h|h)
  · exact Nat.lt_asymm h m.1
  · exact absurd h.1 (Nat.ne_of_lt m.1)
theorem ziN(wide:Bool)(p:Nat)(v:List UInt8×Int): ∀d n,v.1.length≤n+d→ ∃N,n≤N∧bestD wide p v N=some (shortGo wide p v d n)∧ ∀j,n≤j→j<N→bestD wide p v j=none:=by
  intro d
  induction d with
  |zero=>
    intro n h
    exact⟨n,Nat.le_refl _,zcD wide p v h,fun j h1 h2=>absurd h1 (Nat.not_le.2 h2)⟩
  |succ d ih=>
    intro n h
    rw[zb9]
    cases hb:bestD wide p v n with
    |some r=>exact⟨n,Nat.le_refl _,hb,fun j h1 h2=>absurd h1 (Nat.not_le.2 h2)⟩
    |none=>
      obtain⟨N,h1,h2,h3⟩:=ih (n+1) (by omega)
      refine⟨N,by omega,h2,fun j h4 h5=>?_⟩
      by_cases c:j=n
      · rw[c];exact hb
      · exact h3 j (by omega) h5
theorem zgv(wide:Bool)(p:Nat): ∃N,1≤N∧bestD wide p (exV wide p) N=some (shortD wide p)∧ ∀j,1≤j→j<N→bestD wide p (exV wide p) j=none:=
  ziN wide p (exV wide p) (exV wide p).1.length 1 (Nat.le_add_left _ _)
theorem zhf{wide:Bool}{p:Nat}{v d:List UInt8×Int}{n:Nat}(h:bestD wide p v n=some d):(v.1.length≤n∧d=v)∨(n<v.1.length∧ ∃u,(u=cU v n∨u=cU v n+1)∧d=decOf u (cE v n)∧isP wide p u (cE v n)):=by
  unfold bestD at h
  by_cases c1:v.1.length≤n
  · rw[if_pos c1] at h
    exact .inl ⟨c1,(Option.some.inj h).symm⟩
  · rw[if_neg c1] at h
    refine .inr ⟨Nat.lt_of_not_le c1,?_⟩
    by_cases c2:isP wide p (nearU v n) (cE v n)
    · rw[if_pos c2] at h
      exact⟨_,zeS v n,(Option.some.inj h).symm,c2⟩
    · rw[if_neg c2] at h
      by_cases c3:isP wide p (cU v n) (cE v n)
      · rw[if_pos c3] at h
        exact⟨_,.inl rfl,(Option.some.inj h).symm,c3⟩
      · rw[if_neg c3] at h
        by_cases c4:isP wide p (cU v n+1) (cE v n)
        · rw[if_pos c4] at h
          exact⟨_,.inr rfl,(Option.some.inj h).symm,c4⟩
        · rw[if_neg c4] at h
          cases h
end Go.Proofs.YtecpgdfnamkfdaaGreatDoor.Pure
end
section
namespace Go.Proofs.YtecpgdfnamkfdaaGreatDoor.Fn
open Go.RowKit Go.Proofs.YtecpgdfnamkfdaaGreatDoorW.PrintWords Go.Proofs.YtecpgdfnamkfdaaGreatDoorW.PrintLast Go.Proofs.YtecpgdfnamkfdaaGreatDoorW.PrintMore
set_option linter.unusedVariables false
set_option linter.unusedSimpArgs false
set_option maxHeartbeats 8000000
set_option maxRecDepth 100000
section
attribute [local go_sem] fnW_0 fnW_1 fnW_2 fnW_3 fnW_4 fnW_5 fnW_guard fnW_eql zaD zaE zaI zaJ
mutual
def zae.j0:Nat→Int→Int→Bool→Int→Int→Int→Int→Bool→Bool→Bool→Bool→Bool→Bool→Int→Int→Int→Option (ByteArray×Bool)
 |0,_,_,_,_,_,_,_,_,_,_,_,_,_,_,_,_=>none
 |k+1,x0,x1,x8,x9,U,O,X,Y,A,B,D,E,I,J,K,M=>if Y=true then(some ((⟨#[]⟩:ByteArray),false)) else(if x8=true then(zae.j1 k x0 x1 x9 U O X (⟨#[]⟩:ByteArray) (O !=2) A B D E I J K M) else(zae.j1 k x0 x1 x9 U O X (⟨#[]⟩:ByteArray) false A B D E I J K M))
def zae.j2:Nat→Int→Int→Int→Int→Int→Int→ByteArray→Bool→Bool→Bool→Bool→Bool→Int→Int→Int→Option (ByteArray×Bool)
 |0,_,_,_,_,_,_,_,_,_,_,_,_,_,_,_=>none
 |k+1,x0,x1,x9,U,Y,X,O,E,I,D,J,M,K,B,A=>if Y=2 then(zae.j3 k O (⟨#[78,97,78]⟩:ByteArray) E I D J false K B A) else(if Y=1 then(zae.j3 k O (⟨#[73,110,102]⟩:ByteArray) E I D J false K B A) else(if D=true then(if X=1 then((zam.f k x0 x1 x9 U (mx (-1) (mn B 1000)) (A !=118) A).bind fun Z=>(zae.j3 k O Z E I D J M K B A)) else(if X=2 then((zak.f k x0 x1 x9 U (mx (-1) (mn B 1000)) (A !=118) A).bind fun aa=>(zae.j3 k O aa E I D J M K B A)) else(if X=3 then((zaf.f k x0 x1 x9 U (mx (-1) (mn B 1000)) (A !=118) A).bind fun ab=>(zae.j3 k O ab E I D J M K B A)) else(if X=4 then((zaF.f x0 x1 x9 U (mx (-1) (mn B 1000)) (A !=118) A).bind fun ac=>(zae.j3 k O ac E I D J M K B A)) else(if X=5 then((zac.f k x0 x1 x9 U (mx (-1) (mn B 1000)) (A !=118) A).bind fun ad=>(zae.j3 k O ad E I D J M K B A)) else(none)))))) else(if X=1 then((zam.f k x0 x1 x9 U (mx (-1) (mn B 1000)) false A).bind fun ae=>(zae.j3 k O ae E I D J M K B A)) else(if X=2 then((zak.f k x0 x1 x9 U (mx (-1) (mn B 1000)) false A).bind fun af=>(zae.j3 k O af E I D J M K B A)) else(if X=3 then((zaf.f k x0 x1 x9 U (mx (-1) (mn B 1000)) false A).bind fun ag=>(zae.j3 k O ag E I D J M K B A)) else(if X=4 then((zaF.f x0 x1 x9 U (mx (-1) (mn B 1000)) false A).bind fun ah=>(zae.j3 k O ah E I D J M K B A)) else(if X=5 then((zac.f k x0 x1 x9 U (mx (-1) (mn B 1000)) false A).bind fun ai=>(zae.j3 k O ai E I D J M K B A)) else(none))))))))
def zae.j3:Nat→ByteArray→ByteArray→Bool→Bool→Bool→Bool→Bool→Int→Int→Int→Option (ByteArray×Bool)
 |0,_,_,_,_,_,_,_,_,_,_=>none
 |k+1,O,U,D,A,E,I,B,J,K,M=>if B=true then(zae.j4 k O U (!A) D A E I B J K M) else(zae.j4 k O U false D A E I B J K M)
def zae.j4:Nat→ByteArray→ByteArray→Bool→Bool→Bool→Bool→Bool→Bool→Int→Int→Int→Option (ByteArray×Bool)
 |0,_,_,_,_,_,_,_,_,_,_,_=>none
 |k+1,O,M,aa,B,D,E,I,X,A,J,K=>if aa=true then((zbi.f 48 (wrap64 ((wrap64 ((mx 0 (mn A 1000))-(O.size:Int)))-(M.size:Int)))).bind fun U=>(if U.size+M.size≤9223372036854775807 then(if O.size+(U++M).size≤9223372036854775807 then((zbj.f (O++(U++M)) B D E I false A J K).bind fun Y=>(some (Y,true))) else(none)) else(none))) else(if O.size+M.size≤9223372036854775807 then((zbj.f (O++M) B D E I false A J K).bind fun Z=>(some (Z,true))) else(none))
def zae.j1:Nat→Int→Int→Int→Int→Int→Int→ByteArray→Bool→Bool→Bool→Bool→Bool→Bool→Int→Int→Int→Option (ByteArray×Bool)
 |0,_,_,_,_,_,_,_,_,_,_,_,_,_,_,_,_=>none
 |k+1,x0,x1,x9,U,O,X,Y,Z,A,D,E,B,I,J,K,M=>if Z=true then(zae.j2 k x0 x1 x9 U O X (⟨#[45]⟩:ByteArray) A D E B I J K M) else(if A=true then(zae.j2 k x0 x1 x9 U O X (⟨#[43]⟩:ByteArray) A D E B I J K M) else(if B=true then(zae.j2 k x0 x1 x9 U O X (⟨#[32]⟩:ByteArray) A D E B I J K M) else(if O=1 then(zae.j2 k x0 x1 x9 U O X (⟨#[43]⟩:ByteArray) A D E B I J K M) else(zae.j2 k x0 x1 x9 U O X Y A D E B I J K M))))
end
def zae.f(k:Nat)(a0:Int)(a1:Int)(E:Bool)(I:Bool)(J:Bool)(K:Bool)(M:Bool)(O:Int)(U:Int)(B:Int):Option (ByteArray×Bool):=(zbA.f a0 a1).bind fun A=>((zax.f k B).bind fun D=>(if A.2.2.2=3 then(zae.j0 k a0 a1 A.1 A.2.1 A.2.2.1 A.2.2.2 D true E I J K M O U B) else(zae.j0 k a0 a1 A.1 A.2.1 A.2.2.1 A.2.2.2 D (D==0) E I J K M O U B)))
theorem zae.calls(k:Nat)(a0:Int)(a1:Int)(J:Bool)(K:Bool)(ae:Bool)(M:Bool)(O:Bool)(E:Int)(I:Int)(A:Int)(r1:ByteArray)(r2:Bool)(w:World)(h:zae.f k a0 a1 J K ae M O E I A=some (r1,r2)):
  Calls Tryz.prog 25 #[.int .u64 a0,.int .i64 a1,.agg #[.bool J,.bool K,.bool ae,.bool M,.bool O,.int .i64 E,.int .i64 I,.int .i32 A]] w fun e w'=>e= .returned (.tuple #[.string r1,.bool r2])∧Below w.heap.size w w':=by
 have lZ:=Tryz.underlying26
 have l0:=Tryz.underlying74
 have HB:=zaa.mk (Below.refl w.heap.size w)
 have H:((zbA.f a0 a1).bind fun am=>((zax.f k A).bind fun ah=>(if am.2.2.2=3 then(zae.j0 k a0 a1 am.1 am.2.1 am.2.2.1 am.2.2.2 ah true J K ae M O E I A) else(zae.j0 k a0 a1 am.1 am.2.1 am.2.2.1 am.2.2.2 ah (ah==0) J K ae M O E I A))))=some (r1,r2):=h
 clear h
 replace H:=bs H
 obtain⟨⟨bf,ab,ac,ar⟩,A4,H⟩:=H
 dsimp only at H
 replace H:=bs H
 obtain⟨ah,A5,H⟩:=H
 have bQ:=zaa.mk H
 clear H
 go_enter Tryz.func25,Tryz.ntmps25
 go_upto_region 3 with(first|((with_reducible refine zah (N:=5) rfl ?_);refine zag rfl (N:=5) rfl (cs:=#[.bool J,.bool K,.bool ae,.bool M,.bool O,.int .i64 E,.int .i64 I,.int .i32 A]) (t:=26) gz ?_;intro D hg w7 hbox hb;have lh:=gN bz hg;have B:=zaa.mk hbox;replace HB:=bN bz hb;clear hb hbox hg)|((with_reducible refine zad (f:=24) rfl ?_);refine gB Tryz.func24 (zbA.calls a0 a1 bf ab ac ar _ A4.out) ?_;intro w8 hb;replace B:=kN (g:=D) (cs:=#[.bool J,.bool K,.bool ae,.bool M,.bool O,.int .i64 E,.int .i64 I,.int .i32 A]) hb bk;replace HB:=bN bz hb;clear hb;obtain⟨au,av,aw,ax,ay,az,aA,aB,aC,aD,aE,aF,aG,aH,aI,aJ⟩:=cz8 B)|((with_reducible refine zad (f:=44) rfl ?_);refine za3 (some 26) rfl rfl Tryz.func44 (by kernel_rfl) rfl #[.int .i32 A] rfl lz ?_;(with_reducible refine(zax.calls k A ah _ A5.out).mono ?_);rintro e w' ⟨rfl,⟨nd,rfl⟩⟩;refine⟨_,rfl,?_⟩))
 (try simp only[Act.put,List.setIfInBounds_toArray,List.set_cons_zero,List.set_cons_succ])
 go_cut [32] (fun li wc=> ∃(kq:Nat) (aP:Bool),li= .bool aP∧zaa (zae.j0 kq a0 a1 bf ab ac ar ah aP J K ae M O E I A=some (r1,r2))∧zaa (kq≤k)∧zaa (wc.heap[D]? =some (.cells #[.bool J,.bool K,.bool ae,.bool M,.bool O,.int .i64 E,.int .i64 I,.int .i32 A] 26 (0,0)))∧zaa (Below w.heap.size w wc))
 case first=>
  have H:=bQ.out
  clear bQ
  by_cases bg:ar=3
  ·replace H:=hE H bg
   obtain⟨a2,a3⟩:=eT bg
   clear bg
   try first|rw[a2]|rw[a3]
   have H':=zaa.mk H
   clear H
   go_wp2
   go_meet
   case rel=>exact⟨_,(true),rz,H',⟨by first|omega|exact Nat.le_refl _⟩,⟨bk⟩,⟨bz⟩⟩
  replace H:=hN H bg
  obtain⟨a2,a3⟩:=eF bg
  try first|rw[a2]|rw[a3]
  have H':=zaa.mk H
  clear H
  go_wp2
  go_meet
  case rel=>exact⟨_,((ah==0)),rz,H',⟨by first|omega|exact Nat.le_refl _⟩,⟨bk⟩,⟨bz⟩⟩
 case rest=>
  clear bQ
  try clear au av aw ax ay az aA aB aC aD aE aF aG aH aI aJ
  obtain⟨kq,aP,rfl,HA,al,B,HB⟩:=hcut
  cases kq with
  |zero=>exact absurd HA.out (by simp[zae.j0])
  |succ ds=>
   have H:=HA.out
   clear HA
   simp only[zae.j0] at H
   by_cases aW:aP=true
   ·subst aW
    replace H:=hT H
    obtain⟨rfl,rfl⟩:=o2 H
    go_wp2
    go_ret2
    exact⟨ez,bz⟩
   replace aW:=Bool.eq_false_iff.mpr aW
   subst aW
   replace H:=hF H
   have bh:=zaa.mk H
   clear H
   go_upto_block 0 with(fail)
   go_cut [13] (fun lj wc=> ∃(kq:Nat) (U:ByteArray),lj= .string U∧zaa (zae.j2 kq a0 a1 ab ac ar ah U J K ae M O E I A=some (r1,r2))∧zaa (kq≤ds)∧zaa (wc.heap[D]? =some (.cells #[.bool J,.bool K,.bool ae,.bool M,.bool O,.int .i64 E,.int .i64 I,.int .i32 A] 26 (0,0)))∧zaa (Below w.heap.size w wc))
   case first=>
    have H:=bh.out
    clear bh
    have bi:=zaa.mk H
    clear H
    go_upto_region 6 with(fail)
    go_cut [33] (fun lk wc=> ∃(kq:Nat) (aN:Bool),lk= .bool aN∧zaa (zae.j1 kq a0 a1 ab ac ar ah (⟨#[]⟩:ByteArray) aN J K ae M O E I A=some (r1,r2))∧zaa (kq≤ds)∧zaa (wc.heap[D]? =some (.cells #[.bool J,.bool K,.bool ae,.bool M,.bool O,.int .i64 E,.int .i64 I,.int .i32 A] 26 (0,0)))∧zaa (Below w.heap.size w wc))
    case first=>
     have H:=bi.out
     clear bi
     by_cases br:bf=true
     ·subst br
      replace H:=hT H
      have H':=zaa.mk H
      clear H
      go_wp2
      go_meet
      case rel=>exact⟨_,((ar !=2)),rz,H',⟨by have:=al.out;first|omega|exact Nat.le_refl _⟩,⟨bk⟩,⟨bz⟩⟩
     replace br:=Bool.eq_false_iff.mpr br
     subst br
     replace H:=hF H
     have H':=zaa.mk H
     clear H
     go_wp2
     go_meet
     case rel=>exact⟨_,(false),rz,H',⟨by have:=al.out;first|omega|exact Nat.le_refl _⟩,⟨bk⟩,⟨bz⟩⟩
    case rest=>
     clear bi
     try clear aW
     try clear au av aw ax ay az aA aB aC aD aE aF aG aH aI aJ
     obtain⟨kq,aN,rfl,HA,aX,B,HB⟩:=hcut
     cases kq with
     |zero=>exact absurd HA.out (by simp[zae.j1])
     |succ l1=>
      have H:=HA.out
      clear HA
      simp only[zae.j1] at H
      by_cases bu:aN=true
      ·subst bu
       replace H:=hT H
       have H':=zaa.mk H
       clear H
       go_wp2
       go_meet
       case rel=>exact⟨_,((⟨#[45]⟩:ByteArray)),rz,H',⟨by have:=al.out;have:=aX.out;first|omega|exact Nat.le_refl _⟩,⟨bk⟩,⟨bz⟩⟩
      replace bu:=Bool.eq_false_iff.mpr bu
      subst bu
      replace H:=hF H
      by_cases bv:J=true
      ·subst bv
       replace H:=hT H
       have H':=zaa.mk H
       clear H
       obtain⟨dt,du,dv,dx,dy,dA,dB,dC,dD,dE,dF,dG,dH,dI,dJ,dK⟩:=cz8 B
       go_wp2
       go_meet
       case rel=>exact⟨_,((⟨#[43]⟩:ByteArray)),rz,H',⟨by have:=al.out;have:=aX.out;first|omega|exact Nat.le_refl _⟩,⟨bk⟩,⟨bz⟩⟩
      replace bv:=Bool.eq_false_iff.mpr bv
      subst bv
      replace H:=hF H
      by_cases bw:M=true
      ·subst bw
       replace H:=hT H
       have H':=zaa.mk H
       clear H
       obtain⟨dL,dM,dN,dO,dP,dQ,dR,dS,dT,dU,dV,dW,dY,dZ,d0,d5⟩:=cz8 B
       go_wp2
       go_meet
       case rel=>exact⟨_,((⟨#[32]⟩:ByteArray)),rz,H',⟨by have:=al.out;have:=aX.out;first|omega|exact Nat.le_refl _⟩,⟨bk⟩,⟨bz⟩⟩
      replace bw:=Bool.eq_false_iff.mpr bw
      subst bw
      replace H:=hF H
      by_cases bj:ar=1
      ·replace H:=hE H bj
       obtain⟨bR,bS⟩:=eT bj
       clear bj
       have H':=zaa.mk H
       clear H
       obtain⟨d6,d9,ea,eb,ec,ed,ee,ef,eg,eh,ei,ej,ek,em,en,eo⟩:=cz8 B
       go_wp2
       go_meet
       case rel=>exact⟨_,((⟨#[43]⟩:ByteArray)),rz,H',⟨by have:=al.out;have:=aX.out;first|omega|exact Nat.le_refl _⟩,⟨bk⟩,⟨bz⟩⟩
      replace H:=hN H bj
      obtain⟨bR,bS⟩:=eF bj
      have H':=zaa.mk H
      clear H
      obtain⟨ep,eq,er,et,eu,ev,ew,ey,eA,eB,eC,eD,eE,eG,eH,eI⟩:=cz8 B
      go_wp2
      go_meet
      case rel=>exact⟨_,((⟨#[]⟩:ByteArray)),rz,H',⟨by have:=al.out;have:=aX.out;first|omega|exact Nat.le_refl _⟩,⟨bk⟩,⟨bz⟩⟩
   case rest=>
    clear bh
    try clear aW
    try clear au av aw ax ay az aA aB aC aD aE aF aG aH aI aJ
    obtain⟨kq,U,rfl,HA,ak,B,HB⟩:=hcut
    cases kq with
    |zero=>exact absurd HA.out (by simp[zae.j2])
    |succ aK=>
     have H:=HA.out
     clear HA
     simp only[zae.j2] at H
     have bl:=zaa.mk H
     clear H
     go_upto_block 1 with(fail)
     go_cut [14] (fun lm wc=> ∃(kq:Nat) (ag:ByteArray) (ad:Bool),lm= .string ag∧zaa (zae.j3 kq U ag J K ae M ad E I A=some (r1,r2))∧zaa (kq≤aK)∧zaa (wc.heap[D]? =some (.cells #[.bool J,.bool K,.bool ae,.bool M,.bool ad,.int .i64 E,.int .i64 I,.int .i32 A] 26 (0,0)))∧zaa (Below w.heap.size w wc))
     case first=>
      have H:=bl.out
      clear bl
      by_cases bm:ar=2
      ·replace H:=hE H bm
       obtain⟨a4,a5⟩:=eT bm
       clear bm
       try first|rw[a4]|rw[a5]
       have H':=zaa.mk H
       clear H
       obtain⟨eJ,eK,eL,eM,eN,eO,eP,eQ,eR,eS,eU,eV,eW,eX,eY,eZ⟩:=cz8 B
       go_wp2
       go_meet
       case rel=>exact⟨_,((⟨#[78,97,78]⟩:ByteArray)),(false),rz,H',⟨by have:=al.out;have:=ak.out;first|omega|exact Nat.le_refl _⟩,⟨bk⟩,⟨bz⟩⟩
      replace H:=hN H bm
      obtain⟨a4,a5⟩:=eF bm
      try first|rw[a4]|rw[a5]
      by_cases bn:ar=1
      ·replace H:=hE H bn
       obtain⟨bU,bV⟩:=eT bn
       clear bn
       have H':=zaa.mk H
       clear H
       obtain⟨e0,e1,e2,e3,e4,e5,e6,e7,e8,e9,fa,fb,fc,fe,fg,fh⟩:=cz8 B
       go_wp2
       go_meet
       case rel=>exact⟨_,((⟨#[73,110,102]⟩:ByteArray)),(false),rz,H',⟨by have:=al.out;have:=ak.out;first|omega|exact Nat.le_refl _⟩,⟨bk⟩,⟨bz⟩⟩
      replace H:=hN H bn
      obtain⟨bU,bV⟩:=eF bn
      obtain⟨a9,a6⟩:=ex (mn I 1000)
      (first|rw[a6] at H|simp only[a6] at H)
      have k3:(if 1000<I then 1000 else I)=a9:=a6
      obtain⟨af,a7⟩:=ex (mx (-1) (a9))
      (first|rw[a7] at H|simp only[a7] at H)
      have k4:(if(-1)<(a9) then(a9) else(-1))=af:=a7
      by_cases bA:ae=true
      ·subst bA
       replace H:=hT H
       by_cases fi:ah=1
       ·subst fi
        replace H:=hE H rfl
        (try simp only[fnW_1])
        replace H:=bs H
        obtain⟨bB,ln,H⟩:=H
        have H':=zaa.mk H
        clear H
        obtain⟨fj,fk,fl,fm,fo,fp,fq,fs,ft,fu,fv,fw,fx,fy,fz,fA⟩:=cz8 B
        go_wp2_with (first|((with_reducible refine zah (N:=15) rfl ?_);refine zag rfl (N:=15) rfl (cs:=#[.int .u64 0,.int .i64 0,.int .u64 0,.int .i64 0,.int .i64 0,.bool false,.int .i32 0]) (t:=74) gz ?_;intro an hg l6 hbox hb;have aQ:=gN bz hg;have aR:=gN bz hg;have X:=lN (g:=D) (cs:=#[.bool J,.bool K,.bool true,.bool M,.bool O,.int .i64 E,.int .i64 I,.int .i32 A]) hg bk;have Y:=rN (g:=D) (cs:=#[.bool J,.bool K,.bool true,.bool M,.bool O,.int .i64 E,.int .i64 I,.int .i32 A]) hg bk;replace B:=kN (g:=D) (cs:=#[.bool J,.bool K,.bool true,.bool M,.bool O,.int .i64 E,.int .i64 I,.int .i32 A]) hb bk;have ai:=zaa.mk hbox;replace HB:=bN bz hb;clear hb hbox hg;have lo:=Y.out;have lp:=X.out;obtain⟨fC,fD,fF,fG,fH,fI,fJ,fK,fL,fN,fO,fP,fQ,fR⟩:=cz7 ai)|(go_at_call 66;(with_reducible refine(zam.calls aK a0 a1 ab ac af (A !=118) A bB _ ln.out).mono ?_);rintro e l7 ⟨rfl,hb⟩;replace B:=kN (g:=D) (cs:=#[.bool J,.bool K,.bool true,.bool M,.bool O,.int .i64 E,.int .i64 I,.int .i32 A]) hb bk;replace ai:=kN (g:=an) (cs:=#[.int .u64 a0,.int .i64 a1,.int .u64 ab,.int .i64 ac,.int .i64 af,.bool (A !=118),.int .i32 A]) hb bk;replace HB:=bN bz hb;(try clear hb);(try clear aS);(try clear hk);(try clear hi)))
        go_meet
        case rel=>exact⟨_,(bB),(O),rz,H',⟨by have:=al.out;have:=ak.out;first|omega|exact Nat.le_refl _⟩,⟨bk⟩,⟨bz⟩⟩
       replace H:=hN H fi
       by_cases fS:ah=2
       ·subst fS
        replace H:=hE H rfl
        (try simp only[fnW_2])
        replace H:=bs H
        obtain⟨bC,lq,H⟩:=H
        have H':=zaa.mk H
        clear H
        obtain⟨fT,fU,fV,fX,fY,fZ,f0,f2,f3,f4,f5,f6,f7,f8,f9,ga⟩:=cz8 B
        go_wp2_with (first|((with_reducible refine zah (N:=15) rfl ?_);refine zag rfl (N:=15) rfl (cs:=#[.int .u64 0,.int .i64 0,.int .u64 0,.int .i64 0,.int .i64 0,.bool false,.int .i32 0]) (t:=74) gz ?_;intro an hg l8 hbox hb;have aQ:=gN bz hg;have aR:=gN bz hg;have X:=lN (g:=D) (cs:=#[.bool J,.bool K,.bool true,.bool M,.bool O,.int .i64 E,.int .i64 I,.int .i32 A]) hg bk;have Y:=rN (g:=D) (cs:=#[.bool J,.bool K,.bool true,.bool M,.bool O,.int .i64 E,.int .i64 I,.int .i32 A]) hg bk;replace B:=kN (g:=D) (cs:=#[.bool J,.bool K,.bool true,.bool M,.bool O,.int .i64 E,.int .i64 I,.int .i32 A]) hb bk;have ai:=zaa.mk hbox;replace HB:=bN bz hb;clear hb hbox hg;have lr:=Y.out;have lu:=X.out;obtain⟨gb,ge,gf,gg,gh,gi,gj,gk,gl,gm,gn,gp,gq,gr⟩:=cz7 ai)|(go_at_call 67;(with_reducible refine(zak.calls aK a0 a1 ab ac af (A !=118) A bC _ lq.out).mono ?_);rintro e l9 ⟨rfl,hb⟩;replace B:=kN (g:=D) (cs:=#[.bool J,.bool K,.bool true,.bool M,.bool O,.int .i64 E,.int .i64 I,.int .i32 A]) hb bk;replace ai:=kN (g:=an) (cs:=#[.int .u64 a0,.int .i64 a1,.int .u64 ab,.int .i64 ac,.int .i64 af,.bool (A !=118),.int .i32 A]) hb bk;replace HB:=bN bz hb;(try clear hb);(try clear aS);(try clear hk);(try clear hi)))
        go_meet
        case rel=>exact⟨_,(bC),(O),rz,H',⟨by have:=al.out;have:=ak.out;first|omega|exact Nat.le_refl _⟩,⟨bk⟩,⟨bz⟩⟩
       replace H:=hN H fS
       by_cases gs:ah=3
       ·subst gs
        replace H:=hE H rfl
        (try simp only[fnW_3])
        replace H:=bs H
        obtain⟨bD,lw,H⟩:=H
        have H':=zaa.mk H
        clear H
        obtain⟨gt,gu,gv,gw,gx,gy,gA,gC,gD,gE,gF,gH,gI,gJ,gK,gL⟩:=cz8 B
        go_wp2_with (first|((with_reducible refine zah (N:=15) rfl ?_);refine zag rfl (N:=15) rfl (cs:=#[.int .u64 0,.int .i64 0,.int .u64 0,.int .i64 0,.int .i64 0,.bool false,.int .i32 0]) (t:=74) gz ?_;intro an hg ma hbox hb;have aQ:=gN bz hg;have aR:=gN bz hg;have X:=lN (g:=D) (cs:=#[.bool J,.bool K,.bool true,.bool M,.bool O,.int .i64 E,.int .i64 I,.int .i32 A]) hg bk;have Y:=rN (g:=D) (cs:=#[.bool J,.bool K,.bool true,.bool M,.bool O,.int .i64 E,.int .i64 I,.int .i32 A]) hg bk;replace B:=kN (g:=D) (cs:=#[.bool J,.bool K,.bool true,.bool M,.bool O,.int .i64 E,.int .i64 I,.int .i32 A]) hb bk;have ai:=zaa.mk hbox;replace HB:=bN bz hb;clear hb hbox hg;have lx:=Y.out;have ly:=X.out;obtain⟨gM,gO,gP,gQ,gR,gS,gT,gU,gV,gW,gX,gY,gZ,g0⟩:=cz7 ai)|(go_at_call 68;(with_reducible refine(zaf.calls aK a0 a1 ab ac af (A !=118) A bD _ lw.out).mono ?_);rintro e mb ⟨rfl,hb⟩;replace B:=kN (g:=D) (cs:=#[.bool J,.bool K,.bool true,.bool M,.bool O,.int .i64 E,.int .i64 I,.int .i32 A]) hb bk;replace ai:=kN (g:=an) (cs:=#[.int .u64 a0,.int .i64 a1,.int .u64 ab,.int .i64 ac,.int .i64 af,.bool (A !=118),.int .i32 A]) hb bk;replace HB:=bN bz hb;(try clear hb);(try clear aS);(try clear hk);(try clear hi)))
        go_meet
        case rel=>exact⟨_,(bD),(O),rz,H',⟨by have:=al.out;have:=ak.out;first|omega|exact Nat.le_refl _⟩,⟨bk⟩,⟨bz⟩⟩
       replace H:=hN H gs
       by_cases g1:ah=4
       ·subst g1
        replace H:=hE H rfl
        (try simp only[fnW_4])
        replace H:=bs H
        obtain⟨bE,lA,H⟩:=H
        have H':=zaa.mk H
        clear H
        obtain⟨g2,g3,g4,g5,g6,g7,g8,g9,ha,hc,he,hf,hh,hj,hl,hm⟩:=cz8 B
        go_wp2_with (first|((with_reducible refine zah (N:=15) rfl ?_);refine zag rfl (N:=15) rfl (cs:=#[.int .u64 0,.int .i64 0,.int .u64 0,.int .i64 0,.int .i64 0,.bool false,.int .i32 0]) (t:=74) gz ?_;intro an hg mc hbox hb;have aQ:=gN bz hg;have aR:=gN bz hg;have X:=lN (g:=D) (cs:=#[.bool J,.bool K,.bool true,.bool M,.bool O,.int .i64 E,.int .i64 I,.int .i32 A]) hg bk;have Y:=rN (g:=D) (cs:=#[.bool J,.bool K,.bool true,.bool M,.bool O,.int .i64 E,.int .i64 I,.int .i32 A]) hg bk;replace B:=kN (g:=D) (cs:=#[.bool J,.bool K,.bool true,.bool M,.bool O,.int .i64 E,.int .i64 I,.int .i32 A]) hb bk;have ai:=zaa.mk hbox;replace HB:=bN bz hb;clear hb hbox hg;have lB:=Y.out;have lC:=X.out;obtain⟨hn,ho,hp,hq,hr,hs,ht,hu,hv,hw,hx,hy,hz,hA⟩:=cz7 ai)|(go_at_call 69;(with_reducible refine(zaF.calls a0 a1 ab ac af (A !=118) A bE _ lA.out).mono ?_);rintro e md ⟨rfl,hb⟩;replace B:=kN (g:=D) (cs:=#[.bool J,.bool K,.bool true,.bool M,.bool O,.int .i64 E,.int .i64 I,.int .i32 A]) hb bk;replace ai:=kN (g:=an) (cs:=#[.int .u64 a0,.int .i64 a1,.int .u64 ab,.int .i64 ac,.int .i64 af,.bool (A !=118),.int .i32 A]) hb bk;replace HB:=bN bz hb;(try clear hb);(try clear aS);(try clear hk);(try clear hi)))
        go_meet
        case rel=>exact⟨_,(bE),(O),rz,H',⟨by have:=al.out;have:=ak.out;first|omega|exact Nat.le_refl _⟩,⟨bk⟩,⟨bz⟩⟩
       replace H:=hN H g1
       by_cases hB:ah=5
       ·subst hB
        replace H:=hE H rfl
        (try simp only[fnW_5])
        replace H:=bs H
        obtain⟨bG,lD,H⟩:=H
        have H':=zaa.mk H
        clear H
        obtain⟨hC,hD,hH,hI,hJ,hK,hL,hM,hO,hP,hQ,hR,hS,hU,hV,hW⟩:=cz8 B
        go_wp2_with (first|((with_reducible refine zah (N:=15) rfl ?_);refine zag rfl (N:=15) rfl (cs:=#[.int .u64 0,.int .i64 0,.int .u64 0,.int .i64 0,.int .i64 0,.bool false,.int .i32 0]) (t:=74) gz ?_;intro an hg me hbox hb;have aQ:=gN bz hg;have aR:=gN bz hg;have X:=lN (g:=D) (cs:=#[.bool J,.bool K,.bool true,.bool M,.bool O,.int .i64 E,.int .i64 I,.int .i32 A]) hg bk;have Y:=rN (g:=D) (cs:=#[.bool J,.bool K,.bool true,.bool M,.bool O,.int .i64 E,.int .i64 I,.int .i32 A]) hg bk;replace B:=kN (g:=D) (cs:=#[.bool J,.bool K,.bool true,.bool M,.bool O,.int .i64 E,.int .i64 I,.int .i32 A]) hb bk;have ai:=zaa.mk hbox;replace HB:=bN bz hb;clear hb hbox hg;have lE:=Y.out;have lF:=X.out;obtain⟨hX,hY,hZ,h0,h1,h2,h3,h4,h5,h6,h7,h8,h9,ia⟩:=cz7 ai)|(go_at_call 70;(with_reducible refine(zac.calls aK a0 a1 ab ac af (A !=118) A bG _ lD.out).mono ?_);rintro e mf ⟨rfl,hb⟩;replace B:=kN (g:=D) (cs:=#[.bool J,.bool K,.bool true,.bool M,.bool O,.int .i64 E,.int .i64 I,.int .i32 A]) hb bk;replace ai:=kN (g:=an) (cs:=#[.int .u64 a0,.int .i64 a1,.int .u64 ab,.int .i64 ac,.int .i64 af,.bool (A !=118),.int .i32 A]) hb bk;replace HB:=bN bz hb;(try clear hb);(try clear aS);(try clear hk);(try clear hi)))
        go_meet
        case rel=>exact⟨_,(bG),(O),rz,H',⟨by have:=al.out;have:=ak.out;first|omega|exact Nat.le_refl _⟩,⟨bk⟩,⟨bz⟩⟩
       replace H:=hN H hB
       exact absurd H (by simp)
      replace bA:=Bool.eq_false_iff.mpr bA
      subst bA
      replace H:=hF H
      by_cases ib:ah=1
      ·subst ib
       replace H:=hE H rfl
       (try simp only[fnW_1])
       replace H:=bs H
       obtain⟨bH,lG,H⟩:=H
       have H':=zaa.mk H
       clear H
       obtain⟨ic,id,ie,ig,ih,ij,ik,il,im,io,ip,iq,ir,it,iu,iv⟩:=cz8 B
       go_wp2_with (first|((with_reducible refine zah (N:=15) rfl ?_);refine zag rfl (N:=15) rfl (cs:=#[.int .u64 0,.int .i64 0,.int .u64 0,.int .i64 0,.int .i64 0,.bool false,.int .i32 0]) (t:=74) gz ?_;intro ao hg mg hbox hb;have aT:=gN bz hg;have aU:=gN bz hg;have Z:=lN (g:=D) (cs:=#[.bool J,.bool K,.bool false,.bool M,.bool O,.int .i64 E,.int .i64 I,.int .i32 A]) hg bk;have aa:=rN (g:=D) (cs:=#[.bool J,.bool K,.bool false,.bool M,.bool O,.int .i64 E,.int .i64 I,.int .i32 A]) hg bk;replace B:=kN (g:=D) (cs:=#[.bool J,.bool K,.bool false,.bool M,.bool O,.int .i64 E,.int .i64 I,.int .i32 A]) hb bk;have aj:=zaa.mk hbox;replace HB:=bN bz hb;clear hb hbox hg;have lH:=aa.out;have lI:=Z.out;obtain⟨iw,ix,iy,iz,iA,iB,iC,iD,iE,iF,iG,iH,iI,iJ⟩:=cz7 aj)|(go_at_call 66;(with_reducible refine(zam.calls aK a0 a1 ab ac af false A bH _ lG.out).mono ?_);rintro e mh ⟨rfl,hb⟩;replace B:=kN (g:=D) (cs:=#[.bool J,.bool K,.bool false,.bool M,.bool O,.int .i64 E,.int .i64 I,.int .i32 A]) hb bk;replace aj:=kN (g:=ao) (cs:=#[.int .u64 a0,.int .i64 a1,.int .u64 ab,.int .i64 ac,.int .i64 af,.bool false,.int .i32 A]) hb bk;replace HB:=bN bz hb;(try clear hb);(try clear aS);(try clear hk);(try clear hi)))
       go_meet
       case rel=>exact⟨_,(bH),(O),rz,H',⟨by have:=al.out;have:=ak.out;first|omega|exact Nat.le_refl _⟩,⟨bk⟩,⟨bz⟩⟩
      replace H:=hN H ib
      by_cases iK:ah=2
      ·subst iK
       replace H:=hE H rfl
       (try simp only[fnW_2])
       replace H:=bs H
       obtain⟨bI,lJ,H⟩:=H
       have H':=zaa.mk H
       clear H
       obtain⟨iL,iM,iN,iO,iP,iQ,iR,iS,iT,iU,iV,iW,iX,iY,iZ,i0⟩:=cz8 B
       go_wp2_with (first|((with_reducible refine zah (N:=15) rfl ?_);refine zag rfl (N:=15) rfl (cs:=#[.int .u64 0,.int .i64 0,.int .u64 0,.int .i64 0,.int .i64 0,.bool false,.int .i32 0]) (t:=74) gz ?_;intro ao hg mi hbox hb;have aT:=gN bz hg;have aU:=gN bz hg;have Z:=lN (g:=D) (cs:=#[.bool J,.bool K,.bool false,.bool M,.bool O,.int .i64 E,.int .i64 I,.int .i32 A]) hg bk;have aa:=rN (g:=D) (cs:=#[.bool J,.bool K,.bool false,.bool M,.bool O,.int .i64 E,.int .i64 I,.int .i32 A]) hg bk;replace B:=kN (g:=D) (cs:=#[.bool J,.bool K,.bool false,.bool M,.bool O,.int .i64 E,.int .i64 I,.int .i32 A]) hb bk;have aj:=zaa.mk hbox;replace HB:=bN bz hb;clear hb hbox hg;have lK:=aa.out;have lL:=Z.out;obtain⟨i1,i3,i4,i5,i6,i7,i9,ja,jb,jc,jd,je,jf,jg⟩:=cz7 aj)|(go_at_call 67;(with_reducible refine(zak.calls aK a0 a1 ab ac af false A bI _ lJ.out).mono ?_);rintro e mj ⟨rfl,hb⟩;replace B:=kN (g:=D) (cs:=#[.bool J,.bool K,.bool false,.bool M,.bool O,.int .i64 E,.int .i64 I,.int .i32 A]) hb bk;replace aj:=kN (g:=ao) (cs:=#[.int .u64 a0,.int .i64 a1,.int .u64 ab,.int .i64 ac,.int .i64 af,.bool false,.int .i32 A]) hb bk;replace HB:=bN bz hb;(try clear hb);(try clear aS);(try clear hk);(try clear hi)))
       go_meet
       case rel=>exact⟨_,(bI),(O),rz,H',⟨by have:=al.out;have:=ak.out;first|omega|exact Nat.le_refl _⟩,⟨bk⟩,⟨bz⟩⟩
      replace H:=hN H iK
      by_cases jh:ah=3
      ·subst jh
       replace H:=hE H rfl
       (try simp only[fnW_3])
       replace H:=bs H
       obtain⟨bJ,lM,H⟩:=H
       have H':=zaa.mk H
       clear H
       obtain⟨ji,jj,jk,jl,jm,jn,jo,jp,jq,jr,js,jt,ju,jv,jw,jy⟩:=cz8 B
       go_wp2_with (first|((with_reducible refine zah (N:=15) rfl ?_);refine zag rfl (N:=15) rfl (cs:=#[.int .u64 0,.int .i64 0,.int .u64 0,.int .i64 0,.int .i64 0,.bool false,.int .i32 0]) (t:=74) gz ?_;intro ao hg ml hbox hb;have aT:=gN bz hg;have aU:=gN bz hg;have Z:=lN (g:=D) (cs:=#[.bool J,.bool K,.bool false,.bool M,.bool O,.int .i64 E,.int .i64 I,.int .i32 A]) hg bk;have aa:=rN (g:=D) (cs:=#[.bool J,.bool K,.bool false,.bool M,.bool O,.int .i64 E,.int .i64 I,.int .i32 A]) hg bk;replace B:=kN (g:=D) (cs:=#[.bool J,.bool K,.bool false,.bool M,.bool O,.int .i64 E,.int .i64 I,.int .i32 A]) hb bk;have aj:=zaa.mk hbox;replace HB:=bN bz hb;clear hb hbox hg;have lO:=aa.out;have lP:=Z.out;obtain⟨jz,jA,jB,jC,jD,jE,jF,jG,jH,jI,jJ,jK,jL,jM⟩:=cz7 aj)|(go_at_call 68;(with_reducible refine(zaf.calls aK a0 a1 ab ac af false A bJ _ lM.out).mono ?_);rintro e mm ⟨rfl,hb⟩;replace B:=kN (g:=D) (cs:=#[.bool J,.bool K,.bool false,.bool M,.bool O,.int .i64 E,.int .i64 I,.int .i32 A]) hb bk;replace aj:=kN (g:=ao) (cs:=#[.int .u64 a0,.int .i64 a1,.int .u64 ab,.int .i64 ac,.int .i64 af,.bool false,.int .i32 A]) hb bk;replace HB:=bN bz hb;(try clear hb);(try clear aS);(try clear hk);(try clear hi)))
       go_meet
       case rel=>exact⟨_,(bJ),(O),rz,H',⟨by have:=al.out;have:=ak.out;first|omega|exact Nat.le_refl _⟩,⟨bk⟩,⟨bz⟩⟩
      replace H:=hN H jh
      by_cases jN:ah=4
      ·subst jN
       replace H:=hE H rfl
       (try simp only[fnW_4])
       replace H:=bs H
       obtain⟨bK,lQ,H⟩:=H
       have H':=zaa.mk H
       clear H
       obtain⟨jO,jP,jQ,jR,jS,jT,jU,jV,jW,jX,jY,jZ,j5,j6,j7,j8⟩:=cz8 B
       go_wp2_with (first|((with_reducible refine zah (N:=15) rfl ?_);refine zag rfl (N:=15) rfl (cs:=#[.int .u64 0,.int .i64 0,.int .u64 0,.int .i64 0,.int .i64 0,.bool false,.int .i32 0]) (t:=74) gz ?_;intro ao hg mo hbox hb;have aT:=gN bz hg;have aU:=gN bz hg;have Z:=lN (g:=D) (cs:=#[.bool J,.bool K,.bool false,.bool M,.bool O,.int .i64 E,.int .i64 I,.int .i32 A]) hg bk;have aa:=rN (g:=D) (cs:=#[.bool J,.bool K,.bool false,.bool M,.bool O,.int .i64 E,.int .i64 I,.int .i32 A]) hg bk;replace B:=kN (g:=D) (cs:=#[.bool J,.bool K,.bool false,.bool M,.bool O,.int .i64 E,.int .i64 I,.int .i32 A]) hb bk;have aj:=zaa.mk hbox;replace HB:=bN bz hb;clear hb hbox hg;have lR:=aa.out;have lS:=Z.out;obtain⟨j9,ka,kb,kc,kf,kg,kh,ki,kj,kk,kl,km,kn,ko⟩:=cz7 aj)|(go_at_call 69;(with_reducible refine(zaF.calls a0 a1 ab ac af false A bK _ lQ.out).mono ?_);rintro e mp ⟨rfl,hb⟩;replace B:=kN (g:=D) (cs:=#[.bool J,.bool K,.bool false,.bool M,.bool O,.int .i64 E,.int .i64 I,.int .i32 A]) hb bk;replace aj:=kN (g:=ao) (cs:=#[.int .u64 a0,.int .i64 a1,.int .u64 ab,.int .i64 ac,.int .i64 af,.bool false,.int .i32 A]) hb bk;replace HB:=bN bz hb;(try clear hb);(try clear aS);(try clear hk);(try clear hi)))
       go_meet
       case rel=>exact⟨_,(bK),(O),rz,H',⟨by have:=al.out;have:=ak.out;first|omega|exact Nat.le_refl _⟩,⟨bk⟩,⟨bz⟩⟩
      replace H:=hN H jN
      by_cases kp:ah=5
      ·subst kp
       replace H:=hE H rfl
       (try simp only[fnW_5])
       replace H:=bs H
       obtain⟨bL,lT,H⟩:=H
       have H':=zaa.mk H
       clear H
       obtain⟨kr,kt,ku,kv,kw,kx,ky,kz,kA,kB,kC,kD,kE,kF,kG,kH⟩:=cz8 B
       go_wp2_with (first|((with_reducible refine zah (N:=15) rfl ?_);refine zag rfl (N:=15) rfl (cs:=#[.int .u64 0,.int .i64 0,.int .u64 0,.int .i64 0,.int .i64 0,.bool false,.int .i32 0]) (t:=74) gz ?_;intro ao hg mq hbox hb;have aT:=gN bz hg;have aU:=gN bz hg;have Z:=lN (g:=D) (cs:=#[.bool J,.bool K,.bool false,.bool M,.bool O,.int .i64 E,.int .i64 I,.int .i32 A]) hg bk;have aa:=rN (g:=D) (cs:=#[.bool J,.bool K,.bool false,.bool M,.bool O,.int .i64 E,.int .i64 I,.int .i32 A]) hg bk;replace B:=kN (g:=D) (cs:=#[.bool J,.bool K,.bool false,.bool M,.bool O,.int .i64 E,.int .i64 I,.int .i32 A]) hb bk;have aj:=zaa.mk hbox;replace HB:=bN bz hb;clear hb hbox hg;have lU:=aa.out;have lV:=Z.out;obtain⟨kI,kJ,kK,kL,kM,kO,kP,kQ,kR,kS,kT,kU,kV,kW⟩:=cz7 aj)|(go_at_call 70;(with_reducible refine(zac.calls aK a0 a1 ab ac af false A bL _ lT.out).mono ?_);rintro e l2 ⟨rfl,hb⟩;replace B:=kN (g:=D) (cs:=#[.bool J,.bool K,.bool false,.bool M,.bool O,.int .i64 E,.int .i64 I,.int .i32 A]) hb bk;replace aj:=kN (g:=ao) (cs:=#[.int .u64 a0,.int .i64 a1,.int .u64 ab,.int .i64 ac,.int .i64 af,.bool false,.int .i32 A]) hb bk;replace HB:=bN bz hb;(try clear hb);(try clear aS);(try clear hk);(try clear hi)))
       go_meet
       case rel=>exact⟨_,(bL),(O),rz,H',⟨by have:=al.out;have:=ak.out;first|omega|exact Nat.le_refl _⟩,⟨bk⟩,⟨bz⟩⟩
      replace H:=hN H kp
      exact absurd H (by simp)
     case rest=>
      clear bl
      try clear aW
      try clear au av aw ax ay az aA aB aC aD aE aF aG aH aI aJ
      obtain⟨kq,ag,ad,rfl,HA,bM,B,HB⟩:=hcut
      cases kq with
      |zero=>exact absurd HA.out (by simp[zae.j3])
      |succ kX=>
       have H:=HA.out
       clear HA
       simp only[zae.j3] at H
       have a8:=zaa.mk H
       clear H
       go_upto_region 22 with(fail)
       go_cut [82] (fun lW wc=> ∃(kq:Nat) (aL:Bool),lW= .bool aL∧zaa (zae.j4 kq U ag aL J K ae M ad E I A=some (r1,r2))∧zaa (kq≤kX)∧zaa (wc.heap[D]? =some (.cells #[.bool J,.bool K,.bool ae,.bool M,.bool ad,.int .i64 E,.int .i64 I,.int .i32 A] 26 (0,0)))∧zaa (Below w.heap.size w wc))
       case first=>
        have H:=a8.out
        clear a8
        by_cases ba:ad=true
        ·subst ba
         replace H:=hT H
         have H':=zaa.mk H
         clear H
         obtain⟨bW,bX,bY,bZ,b0,b1,b2,b3,b4,b5,b6,b7,b8,ca,cb,cc⟩:=cz8 B
         go_wp2
         go_meet
         case rel=>exact⟨_,(!K),rz,H',⟨by have:=al.out;have:=ak.out;have:=bM.out;first|omega|exact Nat.le_refl _⟩,⟨bk⟩,⟨bz⟩⟩
        replace ba:=Bool.eq_false_iff.mpr ba
        subst ba
        replace H:=hF H
        have H':=zaa.mk H
        clear H
        obtain⟨cd,ce,cf,cg,ci,cj,ck,cm,cn,co,cp,cq,cr,ct,cu,cv⟩:=cz8 B
        go_wp2
        go_meet
        case rel=>exact⟨_,(false),rz,H',⟨by have:=al.out;have:=ak.out;have:=bM.out;first|omega|exact Nat.le_refl _⟩,⟨bk⟩,⟨bz⟩⟩
       case rest=>
        clear a8
        try clear aW
        try clear au av aw ax ay az aA aB aC aD aE aF aG aH aI aJ
        obtain⟨kq,aL,rfl,HA,lX,B,HB⟩:=hcut
        cases kq with
        |zero=>exact absurd HA.out (by simp[zae.j4])
        |succ lY=>
         have H:=HA.out
         clear HA
         simp only[zae.j4] at H
         by_cases bb:aL=true
         case neg=>
          replace bb:=Bool.eq_false_iff.mpr bb
          subst bb
          replace H:=hF H
          by_cases aZ:U.size+ag.size≤9223372036854775807
          ·replace H:=hE H aZ
           have lc:=eq_true aZ
           have lf:=decide_eq_true aZ
           have lg:=eq_false (Nat.not_lt.2 aZ)
           replace H:=bs H
           obtain⟨k0,k2,H⟩:=H
           obtain⟨rfl,rfl⟩:=o2 H
           obtain⟨c9,da,db,dc,dd,de,df,dh,di,dj,dk,dl,dm,dn,dp,dq⟩:=cz8 B
           go_wp2_with (first|((with_reducible refine zad (f:=45) rfl ?_);refine gB Tryz.func45 (zbj.calls (U++ag) J K ae M false E I A k0 _ k2.out) ?_;intro l5 hb;replace B:=kN (g:=D) (cs:=#[.bool J,.bool K,.bool ae,.bool M,.bool false,.int .i64 E,.int .i64 I,.int .i32 A]) hb bk;replace HB:=bN bz hb;clear hb))
           go_ret2
           exact⟨ez,bz⟩
          replace H:=hN H aZ
          exact absurd H (by simp)
         subst bb
         replace H:=hT H
         obtain⟨aV,aO⟩:=ex (mn E 1000)
         (first|rw[aO] at H|simp only[aO] at H)
         have bo:(if 1000<E then 1000 else E)=aV:=aO
         obtain⟨ap,aM⟩:=ex (mx 0 (aV))
         (first|rw[aM] at H|simp only[aM] at H)
         have aY:(if 0<(aV) then(aV) else 0)=ap:=aM
         replace H:=bs H
         obtain⟨bd,be,H⟩:=H
         obtain⟨bp,H⟩:=hG H
         have k5:=eq_true bp
         have k6:=decide_eq_true bp
         have k7:=eq_false (Nat.not_lt.2 bp)
         obtain⟨bq,H⟩:=hG H
         have k8:=eq_true bq
         have k9:=decide_eq_true bq
         have lb:=eq_false (Nat.not_lt.2 bq)
         replace H:=bs H
         obtain⟨kY,kZ,H⟩:=H
         obtain⟨rfl,rfl⟩:=o2 H
         obtain⟨cw,cx,cy,cz,cA,cB,cC,cD,cF,cG,cH,cI,cJ,cK,cL,cM⟩:=cz8 B
         have hbl_:0≤ap:=by rw[←aY];split<;>omega
         have hbh_:ap≤1000:=by rw[←aY,←bo];repeat' split<;>omega
         have hs_:U.size+(bd.size+ag.size)≤9223372036854775807:=by have h_:U.size+(bd++ag).size≤9223372036854775807:=of_decide_eq_true (by assumption);rw[ByteArray.size_append] at h_;exact h_
         have bO:wrap64 (ap-(U.size:Int))=ap-(U.size:Int):=by unfold wrap64;omega
         have bP:wrap64 (ap-(U.size:Int)-(ag.size:Int))=ap-(U.size:Int)-(ag.size:Int):=by unfold wrap64;omega
         have A_:=be.out
         clear be
         rw[bO,bP] at A_
         clear bO bP
         have be:=zaa.mk A_
         clear A_
         go_wp2_with (first|((with_reducible refine zad (f:=27) rfl ?_);refine gB Tryz.func27 (zbi.calls 48 (ap-(U.size:Int)-(ag.size:Int)) bd _ be.out) ?_ (hargs:=by(try simp only[List.map_toArray,List.map_cons,List.map_nil]);first|done|(simp only[aM];rfl)|rfl|(simp only[List.length_drop,List.length_take];rfl));intro l3 hb;replace B:=kN (g:=D) (cs:=#[.bool J,.bool K,.bool ae,.bool M,.bool ad,.int .i64 E,.int .i64 I,.int .i32 A]) hb bk;replace HB:=bN bz hb;clear hb;obtain⟨cN,cO,cP,cQ,cR,cS,cT,cV,cW,cX,cY,cZ,c5,c6,c7,c8⟩:=cz8 B)|((with_reducible refine zad (f:=45) rfl ?_);refine gB Tryz.func45 (zbj.calls (U++(bd++ag)) J K ae M false E I A kY _ kZ.out) ?_;intro l4 hb;replace B:=kN (g:=D) (cs:=#[.bool J,.bool K,.bool ae,.bool M,.bool false,.int .i64 E,.int .i64 I,.int .i32 A]) hb bk;replace HB:=bN bz hb;clear hb))
         go_ret2
         exact⟨by first|exact ez|(simp only[←aO,←aM];exact ez),bz⟩
end
end Go.Proofs.YtecpgdfnamkfdaaGreatDoor.Fn
end
section
namespace Go.Proofs.YtecpgdfnamkfdaaGreatDoor.Pure
open Go.RowKit Go.Proofs.YtecpgdfnamkfdaaGreatDoorW.PrintWords Go.Proofs.YtecpgdfnamkfdaaGreatDoorW.PrintLast Go.Proofs.YtecpgdfnamkfdaaGreatDoorW.PrintMore Go.Proofs.YtecpgdfnamkfdaaGreatDoor.Fn
set_option linter.unusedVariables false
set_option linter.unusedSimpArgs false
def codeV(v:Int):Int:=if v=101∨v=69 then 1 else if v=102∨v=70 then 2 else if v=103∨v=71∨v=118 then 3 else if v=98 then 4 else if v=120∨v=88 then 5 else 0
theorem zhg(v:Int)(k:Nat):zax.f (k+3) v=some (codeV v):=by
  unfold codeV zax.f
  simp only[zax.j0,zax.j1,zax.j2]
  by_cases d1:v=101
  · subst d1;rfl
  by_cases d2:v=69
  · subst d2;rfl
  by_cases d3:v=102
  · subst d3;rfl
  by_cases d4:v=70
  · subst d4;rfl
  by_cases d5:v=103
  · subst d5;rfl
  by_cases d6:v=71
  · subst d6;rfl
  by_cases d7:v=118
  · subst d7;rfl
  by_cases d8:v=98
  · subst d8;rfl
  by_cases d9:v=120
  · subst d9;rfl
  by_cases A:v=88
  · subst A;rfl
  simp[d1,d2,d3,d4,d5,d6,d7,d8,d9,A]
theorem zhh(v:Int):Ev (fun k=>zax.f k v) (codeV v):=
  ⟨3,fun k hk=>by obtain⟨j,rfl⟩: ∃j,k=j+3:=⟨k-3,by omega⟩;exact zhg v j⟩
theorem zhU(v:Int):0≤codeV v∧codeV v≤5:=by
  unfold codeV
  repeat' split
  all_goals decide
def signL(neg:Bool)(kind:Int)(plus space:Bool):List UInt8:=if neg=true∧kind≠2 then [45] else if plus then [43] else if space then [32] else if kind=1 then [43] else []
theorem zdd(neg:Bool)(kind:Int)(plus space:Bool):(signL neg kind plus space).length≤1∧Asc (signL neg kind plus space):=by
  unfold signL
  repeat' split
  all_goals exact⟨by decide,by decide⟩
def clamp(prec:Int):Int:=max (-1) (min prec 1000)
theorem zdW(prec:Int): -1≤clamp prec∧clamp prec≤1000:=by unfold clamp;omega
def restL(wide:Bool)(p m:Nat)(e prec v:Int)(sharp:Bool):List UInt8:=
  if codeV v=1 then scaledL (sharp&&v !=118) (bigV v) (exD m e) (six prec)
  else if codeV v=2 then fixedL (sharp&&v !=118) (exD m e) (six prec)
  else if codeV v=3 then genOf wide p m e prec (sharp&&v !=118) (bigV v)
  else if codeV v=4 then binL m e
  else hexL m e prec (sharp&&v !=118) (v==88)
def Fit(l:List UInt8):Prop:=Asc l∧l.length≤100000
theorem zf5{l:List UInt8}(h:Asc l)(hl:l.length≤50000)(dot big:Bool)(e:Int):Fit (sciL dot big l e):=by
  refine⟨zhO h dot big e,?_⟩
  have h1:=zb1 dot (l.take 1) (l.drop 1)
  have h2:=zcd (eMark big) (e:=e) (least:=2) (by decide)
  have hm:(eMark big).length=1:=by cases big<;>rfl
  rw[List.length_take,List.length_drop] at h1
  unfold sciL
  rw[List.length_append]
  omega
theorem zeh{l:List UInt8}(h:Asc l)(hl:l.length≤20000)(dot:Bool){p:Int}(hp: -20000≤p∧p≤20000):Fit (aroundL dot l p):=by
  refine⟨zfI h dot p,?_⟩
  have hf:=zbg l p
  unfold aroundL
  split
  · have h1:=zb1 dot [48] (zsL (-p).toNat++l)
    rw[List.length_append,zbk] at h1
    simp at h1
    omega
  · have h1:=zb1 dot ((fillL l p).take p.toNat) ((fillL l p).drop p.toNat)
    rw[List.length_take,List.length_drop] at h1
    omega
theorem zgw{v:List UInt8×Int}(h:Near v)(dot big:Bool){p:Int}(hp:0≤p∧p≤1000):Fit (scaledL dot big v p):=by
  have hb:=zbN h (p+1)
  have hf:=zbg (roundN v.1 v.2 (p+1)).1 (p+1)
  exact zf5 (zbD (zbI h.form (p+1)).1.asc _) (by omega) dot big _
theorem zhi{v:List UInt8×Int}(h:Near v)(dot:Bool){p:Int}(hp:0≤p∧p≤1000):Fit (fixedL dot v p):=by
  have hb:=zbN h (v.2+p)
  have ha:=(zbI h.form (v.2+p)).1.asc
  unfold fixedL
  generalize roundN v.1 v.2 (v.2+p)=d at*
  split
  · refine⟨zcb (by decide) (zcw _) dot,?_⟩
    have h1:=zb1 dot [48] (zsL p.toNat)
    rw[zbk] at h1
    simp at h1
    omega
  · split
    · refine⟨zcb (by decide) (zbD ((zcw _).app ha) _) dot,?_⟩
      have h1:=zb1 dot [48] (fillL (zsL (-d.2).toNat++d.1) p)
      have hf:=zbg (zsL (-d.2).toNat++d.1) p
      rw[List.length_append,zbk] at hf
      simp at h1
      omega
    · have hf:=zbg d.1 (d.2+p)
      exact zeh (zbD ha _) (by omega) dot (by omega)
theorem zf6{d:List UInt8×Int}(ha:Asc d.1)(hd:d.1.length≤2000∧ -4000≤d.2∧d.2≤1500)(dot big:Bool){keep top:Int}(hk:1≤keep∧keep≤1000):Fit (genL dot big d keep top):=by
  have hfb:=zb8 (d:=d) hd.2
  unfold genL
  dsimp only
  have hl:Asc (if d.1=[] then [48] else d.1)∧(if d.1=[] then([48]:List UInt8) else d.1).length≤2000:=by
    split
    · exact⟨by decide,by decide⟩
    · exact⟨ha,hd.1⟩
  generalize (if d.1=[] then([48]:List UInt8) else d.1)=l at*
  have hm:Asc (if dot=true then fillL l keep else l)∧(if dot=true then fillL l keep else l).length≤3000:=by
    have hf:=zbg l keep
    split
    · exact⟨zbD hl.1 _,by omega⟩
    · exact⟨hl.1,by omega⟩
  split
  · exact zf5 hm.1 (by omega) dot big _
  · exact zeh hm.1 (by omega) dot (by omega)
theorem zdt(wide:Bool){p:Nat}(hp:p<ii wide):InForm (shortL wide p).1 (shortL wide p).2∧(shortL wide p).1.length≤2000∧ -4000≤(shortL wide p).2∧(shortL wide p).2≤1500:=by
  unfold shortL
  by_cases c:p=0
  · rw[if_pos c];exact⟨⟨AllD.nil,fun c t e=>(by cases e),rfl,fun _=>rfl⟩,by decide,by decide,by decide⟩
  · rw[if_neg c]
    obtain⟨M,h1,h2,h3⟩:=zgv wide p
    have hv:=zew wide hp
    have hl:=hv.len
    have hlo:=hv.lo
    have hhi:=hv.hi
    rcases zhf h2 with⟨_,e⟩|⟨hn,u,hu,e,_⟩
    · rw[e];exact⟨hv.form,by omega,by omega,by omega⟩
    · have hc:=zic hv M hn
      have A:u<10^(M+1):=by
        rw[Nat.pow_succ]
        have:1≤10^M:=Nat.pow_pos (by decide)
        rcases hu with hu|hu<;>omega
      have hb:=zbT A (cE (exV wide p) M)
      rw[e]
      unfold cE at hb ⊢
      exact⟨zbc _ _,by omega,by omega,by omega⟩
theorem zhj(wide:Bool){p:Nat}(hp:p<ii wide){m:Nat}(hm:m<18446744073709551616){e:Int}(h: -1200≤e∧e≤1200){prec:Int}(hq: -1≤prec∧prec≤1000)(dot big:Bool):Fit (genOf wide p m e prec dot big):=by
  unfold genOf
  split
  · have:=zdt wide hp
    exact zf6 this.1.1.asc this.2 dot big (by decide)
  · have hn:=zce hm h
    have hb:=zbN hn (max prec 1)
    exact zf6 (zbI hn.form _).1.asc (by omega) dot big (by omega)
theorem ziO(m:Nat)(e:Int):Fit (binL m e):=by
  refine⟨(zfi (by decide) m).app (zdc (by decide) e 1),?_⟩
  have h1:=zee 10 m
  have h2:=zcd ([112]:List UInt8) (e:=e) (least:=1) (by decide)
  unfold binL
  rw[List.length_append]
  simp at h2
  omega
set_option maxRecDepth 100000 in
theorem zhk(b:UInt8)(h:b.toNat<128):(Lib.upperB b).toNat<128:=by
  have key: ∀n:Fin 256,n.val<128→(Lib.upperB (UInt8.ofNat n.val)).toNat<128:=by decide
  have:=key ⟨b.toNat,b.toNat_lt⟩ h
  rwa [UInt8.ofNat_toNat] at this
theorem zde{lead ds:List UInt8}(hl:lead.length≤10∧Asc lead)(hd:ds.length≤2000∧Asc ds)(dot up:Bool)(x:Int):Fit (hexEnd dot up lead ds x):=by
  have h1:=zb1 dot lead ds
  have h2:=zcd ([112]:List UInt8) (e:=x) (least:=2) (by decide)
  have ha:Asc ([48,120]++(ptL dot lead ds++powL [112] x 2)):=Asc.app (by decide) ((zcb hl.2 hd.2 dot).app (zdc (by decide) x 2))
  have hlen:([48,120]++(ptL dot lead ds++powL [112] x 2)).length≤100000:=by simp at h2 ⊢;omega
  unfold hexEnd
  split
  · refine⟨fun c hc=>?_,by unfold Lib.toUpperA;rw[List.length_map];exact hlen⟩
    unfold Lib.toUpperA at hc
    obtain⟨b,hb,rfl⟩:=List.mem_map.1 hc
    exact zhk b (ha b hb)
  · exact⟨ha,hlen⟩
theorem zdH(dot up:Bool){lead:List UInt8}(hl:lead.length≤10∧Asc lead){part:Nat}(hp:part≤18446744073709551615)(x:Int){prec:Int}(hq: -1≤prec∧prec≤1000):Fit (hexTail dot up lead part x prec):=by
  have hs:=zdV hp
  unfold hexTail
  split
  · exact zde hl ⟨by have:=zhe (sixL part);omega,zhd (zcx _)⟩ dot up x
  · split
    · have hf:=zbg (sixL part) prec
      exact zde hl ⟨by omega,zbD (zcx _) _⟩ dot up x
    · unfold hexMid
      dsimp only
      refine zde hl ?_ dot up _
      split
      · exact⟨by decide,Asc.nil⟩
      · refine⟨?_,(zcx _).take _⟩
        rw[List.length_take]
        omega
theorem ziP(m:Nat)(e:Int){prec:Int}(hq: -1≤prec∧prec≤1000)(dot up:Bool):Fit (hexL m e prec dot up):=by
  unfold hexL
  split
  · exact zdH dot up ⟨by decide,by decide⟩ (by decide) _ hq
  · exact zdH dot up ⟨by decide,by decide⟩ (by omega) _ hq
theorem zfu{prec:Int}(hq: -1≤prec∧prec≤1000):0≤six prec∧six prec≤1000:=by unfold six;split<;>omega
theorem zfv(wide:Bool){p:Nat}(hp:p<ii wide){m:Nat}(hm:m<18446744073709551616){e:Int}(h: -1200≤e∧e≤1200){prec:Int}(hq: -1≤prec∧prec≤1000)(v:Int)(sharp:Bool):Fit (restL wide p m e prec v sharp):=by
  have hn:=zce hm h
  unfold restL
  repeat' split
  · exact zgw hn _ _ (zfu hq)
  · exact zhi hn _ (zfu hq)
  · exact zhj wide hp hm h hq _ _
  · exact ziO m e
  · exact ziP m e hq _ _
def endL(sign rest:List UInt8)(minus zero:Bool)(wid:Int):List UInt8:=
  padL (sign++(if zero&& !minus then List.replicate (max 0 (min wid 1000)-sign.length-rest.length).toNat 48++rest else rest)) minus false wid
theorem zfw{sign rest:List UInt8}(hs:sign.length≤1∧Asc sign)(hr:Fit rest)(plus minus sharp space zero:Bool)(wid prec v:Int):
    Ev (fun k=>zae.j3 k (S sign) (S rest) plus minus sharp space zero wid prec v) (S (endL sign rest minus zero wid),true):=by
  have ha:=hr.1
  have hl:=hr.2
  have key: ∀u:Bool,Ev (fun k=>zae.j4 k (S sign) (S rest) u plus minus sharp space zero wid prec v) (S (padL (sign++(if u then List.replicate (max 0 (min wid 1000)-sign.length-rest.length).toNat 48++rest else rest)) minus false wid),true):=by
    intro u
    refine Ev.step (fun k=>by simp only[zae.j4];rfl) ?_
    cases u with
    |true=>
      refine Ev.congr (fun k=>if_pos rfl) ?_
      rw[if_pos rfl,zaw,zaw,zcL,ze6,w64 (x:=max 0 (min wid 1000)-(sign.length:Int)) (by omega) (by omega),w64 (by omega) (by omega)]
      have hf:=zf1 48 (max 0 (min wid 1000)-(sign.length:Int)-(rest.length:Int))
      rw[show(((48:UInt8).toNat:Nat):Int)=48 from rfl,show(min (max 0 (min wid 1000)-(sign.length:Int)-(rest.length:Int)) 1000).toNat=(max 0 (min wid 1000)-(sign.length:Int)-(rest.length:Int)).toNat by omega] at hf
      rw[hf]
      simp only[Option.bind_some]
      generalize hz:(max 0 (min wid 1000)-(sign.length:Int)-(rest.length:Int)).toNat=n
      have hn:n≤1000:=by omega
      refine Ev.congr (fun k=>if_pos (by rw[zaw,List.length_replicate];omega)) ?_
      rw[zbq]
      refine Ev.congr (fun k=>if_pos (by rw[zaw,List.length_append,List.length_replicate];omega)) ?_
      rw[zbq,zg6 (hs.2.app ((Asc.rep n (by decide)).app ha)) (by rw[List.length_append,List.length_append,List.length_replicate];omega)]
      exact Ev.now _
    |false=>
      refine Ev.congr (fun k=>if_neg (by simp)) ?_
      show Ev _ (S (padL (sign++rest) minus false wid),true)
      refine Ev.congr (fun k=>if_pos (by rw[zaw,zaw];omega)) ?_
      rw[zbq,zg6 (hs.2.app ha) (by rw[List.length_append];omega)]
      exact Ev.now _
  refine Ev.step (fun k=>by simp only[zae.j3];rfl) ?_
  unfold endL
  cases zero with
  |true=>exact Ev.congr (fun k=>if_pos rfl) (key (!minus))
  |false=>exact Ev.congr (fun k=>if_neg (by simp)) (key false)
def floatS(wide:Bool)(a:Nat)(plus minus sharp space zero:Bool)(wid prec v:Int):ByteArray×Bool:=
  if codeV v=0 then(⟨#[]⟩,false)
  else if bareN wide a<ii wide then(S (endL (signL (a / tt wide%2==1) 0 plus space) (restL wide (bareN wide a) (fM (ff wide) (bareN wide a)) ((fE (ff wide) (bareN wide a):Int)-(ll wide:Int)) (clamp prec) v sharp) minus zero wid),true)
  else if bareN wide a=ii wide then(S (endL (signL (a / tt wide%2==1) 1 plus space) [73,110,102] minus false wid),true)
  else(S (endL (signL (a / tt wide%2==1) 2 plus space) [78,97,78] minus false wid),true)
theorem zf7{R:ByteArray×Bool}(x0 x1 x9 B A D:Int)(neg plus minus sharp space zero:Bool)(wid prec v:Int)
    (h:Ev (fun k=>zae.j2 k x0 x1 x9 B A D (S (signL neg A plus space)) plus minus sharp space zero wid prec v) R) (u:Bool) (hu:u=decide (neg=true∧A≠2)):
    Ev (fun k=>zae.j1 k x0 x1 x9 B A D (⟨#[]⟩:ByteArray) u plus minus sharp space zero wid prec v) R:=by
  unfold signL at h
  refine Ev.step (fun k=>by simp only[zae.j1];rfl) ?_
  by_cases c:neg=true∧A≠2
  · have:u=true:=by rw[hu];exact decide_eq_true c
    subst this
    rw[if_pos c] at h
    exact Ev.congr (fun k=>if_pos rfl) h
  · have:u=false:=by rw[hu];exact decide_eq_false c
    subst this
    rw[if_neg c] at h
    refine Ev.congr (fun k=>if_neg (by simp)) ?_
    cases plus with
    |true=>exact Ev.congr (fun k=>if_pos rfl) h
    |false=>
      refine Ev.congr (fun k=>if_neg (by simp)) ?_
      cases space with
      |true=>exact Ev.congr (fun k=>if_pos rfl) h
      |false=>
        refine Ev.congr (fun k=>if_neg (by simp)) ?_
        by_cases c1:A=1
        · rw[if_neg (by simp),if_neg (by simp),if_pos c1] at h
          exact Ev.congr (fun k=>if_pos c1) h
        · rw[if_neg (by simp),if_neg (by simp),if_neg c1] at h
          exact Ev.congr (fun k=>if_neg c1) h
theorem zhl(prec:Int):mx (-1) (mn prec 1000)=clamp prec:=by rw[zcL,ze6];rfl
theorem ziQ(wide:Bool){a p:Nat}(ha:a<18446744073709551616)(hb:bareN wide a=p)(hp:p<ii wide){m:Nat}(hm:m<18446744073709551616){e:Int}(h: -1200≤e∧e≤1200){sign:List UInt8}(hs:sign.length≤1∧Asc sign)(plus minus sharp space zero:Bool)(wid prec v:Int)(hc:codeV v≠0):
    Ev (fun k=>zae.j2 k (a:Int) (szB wide) (m:Int) e 0 (codeV v) (S sign) plus minus sharp space zero wid prec v) (S (endL sign (restL wide p m e (clamp prec) v sharp) minus zero wid),true):=by
  have hq:=zdW prec
  have hfit:=zfv wide hp hm h hq v sharp
  have hend:=zfw hs hfit plus minus sharp space zero wid prec v
  have hsl:=(zdt wide hp).2
  have hcl:=zhU v
  refine Ev.step (fun k=>by simp only[zae.j2];rfl) ?_
  refine Ev.congr (fun k=>if_neg (by decide)) ?_
  refine Ev.congr (fun k=>if_neg (by decide)) ?_
  rw[zhl]
  have way: ∀dot:Bool,dot=(sharp&&v !=118)→Ev (fun k=>if codeV v=1 then((zam.f k (a:Int) (szB wide) (m:Int) e (clamp prec) dot v).bind fun A=>(zae.j3 k (S sign) A plus minus sharp space zero wid prec v)) else(if codeV v=2 then((zak.f k (a:Int) (szB wide) (m:Int) e (clamp prec) dot v).bind fun B=>(zae.j3 k (S sign) B plus minus sharp space zero wid prec v)) else(if codeV v=3 then((zaf.f k (a:Int) (szB wide) (m:Int) e (clamp prec) dot v).bind fun D=>(zae.j3 k (S sign) D plus minus sharp space zero wid prec v)) else(if codeV v=4 then((zaF.f (a:Int) (szB wide) (m:Int) e (clamp prec) dot v).bind fun E=>(zae.j3 k (S sign) E plus minus sharp space zero wid prec v)) else(if codeV v=5 then((zac.f k (a:Int) (szB wide) (m:Int) e (clamp prec) dot v).bind fun I=>(zae.j3 k (S sign) I plus minus sharp space zero wid prec v)) else none)))))
      (S (endL sign (restL wide p m e (clamp prec) v sharp) minus zero wid),true):=by
    intro dot hd
    unfold restL at hend ⊢
    rw[←hd] at hend ⊢
    by_cases c1:codeV v=1
    · rw[if_pos c1] at hend ⊢
      exact Ev.congr (fun k=>if_pos c1) (Ev.bind (zhc _ _ hm h hq v dot) hend)
    · rw[if_neg c1] at hend ⊢
      refine Ev.congr (fun k=>if_neg c1) ?_
      by_cases c2:codeV v=2
      · rw[if_pos c2] at hend ⊢
        exact Ev.congr (fun k=>if_pos c2) (Ev.bind (zhS _ _ hm h hq v dot) hend)
      · rw[if_neg c2] at hend ⊢
        refine Ev.congr (fun k=>if_neg c2) ?_
        by_cases c3:codeV v=3
        · rw[if_pos c3] at hend ⊢
          exact Ev.congr (fun k=>if_pos c3) (Ev.bind (zjm wide ha hb hp hsl hm h hq v dot) hend)
        · rw[if_neg c3] at hend ⊢
          refine Ev.congr (fun k=>if_neg c3) ?_
          by_cases c4:codeV v=4
          · rw[if_pos c4] at hend ⊢
            refine Ev.congr (fun k=>if_pos c4) ?_
            rw[zg5 _ _ _ _ _ (by omega) (by omega)]
            exact hend
          · rw[if_neg c4] at hend ⊢
            refine Ev.congr (fun k=>if_neg c4) ?_
            exact Ev.congr (fun k=>if_pos (by omega)) (Ev.bind (zjn _ _ v dot hm h hq) hend)
  cases sharp with
  |true=>exact Ev.congr (fun k=>if_pos rfl) (way (v !=118) (by simp))
  |false=>exact Ev.congr (fun k=>if_neg (by simp)) (way false rfl)
theorem zdf(wide:Bool){a:Nat}(ha:a<18446744073709551616)(plus minus sharp space zero:Bool)(wid prec v:Int):
    Ev (fun k=>zae.f k (a:Int) (szB wide) plus minus sharp space zero wid prec v) (floatS wide a plus minus sharp space zero wid prec v):=by
  have hi:=ze4 wide
  unfold zae.f floatS
  rw[parts_eq wide a ha]
  simp only[Option.bind_some]
  refine Ev.bind (zhh v) ?_
  have hk: ∀x:Int,x=(partsS wide a).2.2.2→x≠3:=by
    intro x hx
    rw[hx]
    unfold partsS
    split
    · exact(by decide:(0:Int)≠3)
    · dsimp only;split<;>decide
  refine Ev.congr (fun k=>if_neg (hk _ rfl)) ?_
  refine Ev.step (fun k=>by simp only[zae.j0];rfl) ?_
  by_cases c0:codeV v=0
  · rw[if_pos c0]
    exact Ev.congr (fun k=>if_pos (beq_iff_eq.mpr c0)) (Ev.now _)
  · rw[if_neg c0]
    refine Ev.congr (fun k=>if_neg (by rw[beq_eq_false_iff_ne.mpr c0];simp)) ?_
    have signs: ∀{R:ByteArray×Bool} (x9 B A:Int) (neg:Bool),Ev (fun k=>zae.j2 k (a:Int) (szB wide) x9 B A (codeV v) (S (signL neg A plus space)) plus minus sharp space zero wid prec v) R→
        Ev (fun k=>if neg=true then(zae.j1 k (a:Int) (szB wide) x9 B A (codeV v) (⟨#[]⟩:ByteArray) (A !=2) plus minus sharp space zero wid prec v) else(zae.j1 k (a:Int) (szB wide) x9 B A (codeV v) (⟨#[]⟩:ByteArray) false plus minus sharp space zero wid prec v)) R:=by
      intro R x9 B A neg h
      cases neg with
      |true=>exact Ev.congr (fun k=>if_pos rfl) (zf7 _ _ _ _ _ _ true plus minus sharp space zero wid prec v h _ (by rw[Bool.eq_iff_iff];simp))
      |false=>exact Ev.congr (fun k=>if_neg (by simp)) (zf7 _ _ _ _ _ _ false plus minus sharp space zero wid prec v h _ (by rw[Bool.eq_iff_iff];simp))
    by_cases c1:bareN wide a<ii wide
    · rw[if_pos c1]
      have hb:=fEl wide (Nat.le_of_lt c1)
      have D:=zcN wide (Nat.le_of_lt c1)
      have e1:partsS wide a=((a / tt wide%2==1:Bool),(fM (ff wide) (bareN wide a):Int),(fE (ff wide) (bareN wide a):Int)-(ll wide:Int),0):=by
        unfold partsS;rw[if_pos c1]
      rw[e1]
      exact signs _ _ _ _ (ziQ (m:=fM (ff wide) (bareN wide a)) (e:=(fE (ff wide) (bareN wide a):Int)-(ll wide:Int)) wide ha rfl c1 (by omega) (by omega) (zdd _ _ _ _) plus minus sharp space zero wid prec v c0)
    · rw[if_neg c1]
      have e1:partsS wide a=((a / tt wide%2==1:Bool),0,0,if bareN wide a=ii wide then 1 else 2):=by
        unfold partsS;rw[if_neg c1]
      rw[e1]
      by_cases c2:bareN wide a=ii wide
      · rw[if_pos c2,if_pos c2]
        refine signs _ _ _ _ ?_
        refine Ev.step (fun k=>by simp only[zae.j2];rfl) ?_
        refine Ev.congr (fun k=>if_neg (by decide)) ?_
        refine Ev.congr (fun k=>if_pos (by first|trivial|rfl)) ?_
        exact zfw (rest:=[73,110,102]) (zdd _ _ _ _) ⟨by decide,by decide⟩ plus minus sharp space false wid prec v
      · rw[if_neg c2,if_neg c2]
        refine signs _ _ _ _ ?_
        refine Ev.step (fun k=>by simp only[zae.j2];rfl) ?_
        refine Ev.congr (fun k=>if_pos (by first|trivial|rfl)) ?_
        exact zfw (rest:=[78,97,78]) (zdd _ _ _ _) ⟨by decide,by decide⟩ plus minus sharp space false wid prec v
def HeadD(l:List UInt8):Prop:= ∃c t,l=c::t∧48≤c.toNat∧c.toNat≤57
theorem HeadD.app{a:List UInt8}(h:HeadD a)(b:List UInt8):HeadD (a++b):=by
  obtain⟨c,t,rfl,h1⟩:=h
  exact⟨c,t++b,rfl,h1⟩
theorem zf8{n:Nat}(h:n<10):48≤(dch n).toNat∧(dch n).toNat≤57:=by
  unfold dch
  rw[if_pos h,UInt8.toNat_ofNat']
  omega
theorem zfx: ∀k n,AllD (bF 10 k n)
  |0,n=>fun c hc=>by
    rw[bF,List.mem_singleton] at hc
    rw[hc]
    exact zf8 (Nat.mod_lt _ (by decide))
  |k+1,n=>by
    have hd:AllD [dch (n%10)]:=fun c hc=>by
      rw[List.mem_singleton] at hc
      rw[hc]
      exact zf8 (Nat.mod_lt _ (by decide))
    unfold bF
    split
    · exact hd
    · exact(zfx k _).append hd
theorem zdg(sign rest:List UInt8)(minus zero:Bool){wid:Int}(h:wid≤0):endL sign rest minus zero wid=sign++rest:=by
  have h1:(max 0 (min wid 1000)-(sign.length:Int)-(rest.length:Int)).toNat=0:=by omega
  have h2: ∀l:List UInt8,padL l minus false wid=l:=by
    intro l
    unfold padL
    rw[show(max 0 (min wid 1000)-(l.length:Int)).toNat=0 by omega]
    cases minus<;>simp
  unfold endL
  rw[h1,h2]
  split<;>simp
end Go.Proofs.YtecpgdfnamkfdaaGreatDoor.Pure
end
section
namespace Go.Proofs.YtecpgdfnamkfdaaGreatDoor.Fn
open Go.RowKit Go.Proofs.YtecpgdfnamkfdaaGreatDoorW.PrintWords Go.Proofs.YtecpgdfnamkfdaaGreatDoorW.PrintLast Go.Proofs.YtecpgdfnamkfdaaGreatDoorW.PrintMore
set_option linter.unusedVariables false
set_option linter.unusedSimpArgs false
set_option maxHeartbeats 8000000
set_option maxRecDepth 100000
section
attribute [local go_sem] fnW_0 fnW_1 fnW_2 fnW_3 fnW_4 fnW_5 fnW_guard fnW_eql zaD zaE zaI zaJ
def complexH(k:Nat)(M O:Int)(h:Int)(U A B D E:Bool)(I J K:Int):Option (ByteArray×Bool):=
  (zae.f k M h U A B D E I J K).bind fun a=>if a.2=true then((zae.f k O h true A B D E I J K).bind fun b=>if b.2=true then(if 1+a.1.size≤9223372036854775807 then(if((⟨#[40]⟩:ByteArray)++a.1).size+b.1.size≤9223372036854775807 then(if(((⟨#[40]⟩:ByteArray)++a.1)++b.1).size+2≤9223372036854775807 then some ((((⟨#[40]⟩:ByteArray)++a.1)++b.1)++(⟨#[105,41]⟩:ByteArray),true) else none) else none) else none) else some ((⟨#[]⟩:ByteArray),false)) else some ((⟨#[]⟩:ByteArray),false)
def zaX.f(k:Nat)(A B:Int)(a1:Int)(D E I J K:Bool)(M O U:Int):Option (ByteArray×Bool):=
  if a1=64 then complexH k A B 32 D E I J K M O U else if a1=128 then complexH k A B 64 D E I J K M O U else some ((⟨#[]⟩:ByteArray),false)
theorem hG4{α:Type}{c:Prop}[Decidable c]{a:Option α}{r:α}(h:(if c then a else none)=some r):c∧a=some r:=by
  by_cases d:c
  · rw[if_pos d] at h;exact⟨d,h⟩
  · rw[if_neg d] at h;cases h
theorem zgx(k:Nat)(O U:Int)(M A B D E:Bool)(I J K:Int)(r1:ByteArray)(r2:Bool)(w:World)(H:complexH k O U 32 M A B D E I J K=some (r1,r2)):
    Calls Tryz.prog 36 #[.int .u64 O,.int .u64 U,.int .i64 64,.agg #[.bool M,.bool A,.bool B,.bool D,.bool E,.int .i64 I,.int .i64 J,.int .i32 K]] w fun e w'=>e= .returned (.tuple #[.string r1,.bool r2])∧Below w.heap.size w w':=by
 unfold complexH at H
 replace H:=bs H
 obtain⟨⟨t1,t2⟩,A1,H⟩:=H
 dsimp only at H
 have HH:=zaa.mk H
 clear H
 have bC:=Tryz.underlying26
 have bD:=Tryz.underlying91
 have bE:=Tryz.underlying92
 have bG: ∀W:World,(Instr.index 92 (.agg #[.int .u64 O,.int .u64 U]) (.int .i64 0)).run Tryz.prog W= .ok (.int .u64 O) W:=by intro W;kernel_rfl
 have bH: ∀W:World,(Instr.index 92 (.agg #[.int .u64 O,.int .u64 U]) (.int .i64 1)).run Tryz.prog W= .ok (.int .u64 U) W:=by intro W;kernel_rfl
 have HB:=zaa.mk (Below.refl w.heap.size w)
 go_enter Tryz.func36,Tryz.ntmps36
 go_wp2_with (first|((with_reducible refine zah (N:=7) rfl ?_);refine zag rfl (N:=7) rfl (cs:=#[.bool M,.bool A,.bool B,.bool D,.bool E,.int .i64 I,.int .i64 J,.int .i32 K]) (t:=26) gz ?_;intro Z hg w4 hbox hb;have bU:=gN bz hg;have X:=zaa.mk hbox;replace HB:=bN bz hb;clear hb hbox hg;obtain⟨aU,aV,aW,aX,aY,aZ,a1,a2,a3,a4,a5,a6,a7,a8,a9,ba⟩:=cz8 (W:=w4) X)|((with_reducible refine zah (N:=10) rfl ?_);refine zag rfl (N:=10) rfl (cs:=#[.string (⟨#[]⟩:ByteArray),.string (⟨#[]⟩:ByteArray)]) (t:=91) gz ?_;intro aa hg w5 hbox hb;have bV:=gN bz hg;have aS:=lN (g:=Z) (cs:=#[.bool M,.bool A,.bool B,.bool D,.bool E,.int .i64 I,.int .i64 J,.int .i32 K]) hg bk;have aT:=rN (g:=Z) (cs:=#[.bool M,.bool A,.bool B,.bool D,.bool E,.int .i64 I,.int .i64 J,.int .i32 K]) hg bk;replace X:=kN (g:=Z) (cs:=#[.bool M,.bool A,.bool B,.bool D,.bool E,.int .i64 I,.int .i64 J,.int .i32 K]) hb bk;have Y:=zaa.mk hbox;replace HB:=bN bz hb;clear hb hbox hg;have bI:=aS.out;have bJ:=aT.out;obtain⟨bb,bd,be,bf,bg,bh,bi,bj,bl,bm,bn,bo,bp,bq,br,bu⟩:=cz8 (W:=w5) X;obtain⟨bv,bw,bA,bB⟩:=cz2 (W:=w5) Y))
 refine wp_loop_rounds 3 ?_
 rw[rounds_succ]
 cases t2 with
 |false=>
  have H:=HH.out
  clear HH
  rw[if_neg (by simp)] at H
  simp only[Option.some.injEq,Prod.mk.injEq] at H
  obtain⟨rfl,rfl⟩:=H
  go_wp2_with (first|(go_at_call 25;(with_reducible refine(zae.calls k O 32 M A B D E I J K t1 false _ A1.out).mono ?_);rintro e w6 ⟨rfl,hb⟩;replace X:=kN (g:=Z) (cs:=#[.bool M,.bool A,.bool B,.bool D,.bool E,.int .i64 I,.int .i64 J,.int .i32 K]) hb bk;replace Y:=kN (g:=aa) (cs:=#[.string (⟨#[]⟩:ByteArray),.string (⟨#[]⟩:ByteArray)]) hb bk;replace HB:=bN bz hb;clear hb;obtain⟨ab,ac,ad,ae,af,ag,ah,ai,aj,ak,al,am,an,ao,ap,ar⟩:=cz8 (W:=w6) X;obtain⟨au,av,aw,ax⟩:=cz2 (W:=w6) Y))
  go_ret2
  exact⟨ez,bz⟩
 |true=>
  have H:=HH.out
  clear HH
  rw[if_pos rfl] at H
  replace H:=bs H
  obtain⟨⟨t3,t4⟩,A2,H⟩:=H
  dsimp only at H
  have HH:=zaa.mk H
  clear H
  go_wp2_with (first|(go_at_call 25;(with_reducible refine(zae.calls k O 32 M A B D E I J K t1 true _ A1.out).mono ?_);rintro e w6 ⟨rfl,hb⟩;replace X:=kN (g:=Z) (cs:=#[.bool M,.bool A,.bool B,.bool D,.bool E,.int .i64 I,.int .i64 J,.int .i32 K]) hb bk;replace Y:=kN (g:=aa) (cs:=#[.string (⟨#[]⟩:ByteArray),.string (⟨#[]⟩:ByteArray)]) hb bk;replace HB:=bN bz hb;clear hb;obtain⟨ab,ac,ad,ae,af,ag,ah,ai,aj,ak,al,am,an,ao,ap,ar⟩:=cz8 (W:=w6) X;obtain⟨au,av,aw,ax⟩:=cz2 (W:=w6) Y))
  rw[rounds_succ]
  cases t4 with
  |false=>
   have H:=HH.out
   clear HH
   rw[if_neg (by simp)] at H
   simp only[Option.some.injEq,Prod.mk.injEq] at H
   obtain⟨rfl,rfl⟩:=H
   go_wp2_with (first|(go_at_call 25;(with_reducible refine(zae.calls k U 32 true A B D E I J K t3 false _ A2.out).mono ?_);rintro e w7 ⟨rfl,hb⟩;replace X:=kN (g:=Z) (cs:=#[.bool true,.bool A,.bool B,.bool D,.bool E,.int .i64 I,.int .i64 J,.int .i32 K]) hb bk;replace Y:=kN (g:=aa) (cs:=#[.string t1,.string (⟨#[]⟩:ByteArray)]) hb bk;replace HB:=bN bz hb;clear hb;obtain⟨ay,az,aA,aB,aC,aD,aE,aF,aG,aH,aI,aJ,aK,aL,aM,aN⟩:=cz8 (W:=w7) X;obtain⟨aO,aP,aQ,aR⟩:=cz2 (W:=w7) Y))
   go_ret2
   exact⟨ez,bz⟩
  |true=>
   have H:=HH.out
   clear HH
   rw[if_pos rfl] at H
   obtain⟨c1,H⟩:=hG4 H
   obtain⟨c2,H⟩:=hG4 H
   obtain⟨c3,H⟩:=hG4 H
   have bK:=eq_true c1
   have bL:=eq_true c2
   have bM:=eq_true c3
   have bO:=eq_false (Nat.not_lt.2 c1)
   have bP:=eq_false (Nat.not_lt.2 c2)
   have bQ:=eq_false (Nat.not_lt.2 c3)
   have bR:(9223372036854775807<1+t1.size+t3.size)=False:=eq_false (by have h_:=c2;rw[ByteArray.size_append] at h_;exact Nat.not_lt.2 h_)
   have bS:(9223372036854775807<1+t1.size+t3.size+2)=False:=eq_false (by have h_:=c3;rw[ByteArray.size_append,ByteArray.size_append] at h_;exact Nat.not_lt.2 h_)
   clear c1 c2 c3
   simp only[Option.some.injEq,Prod.mk.injEq] at H
   obtain⟨rfl,rfl⟩:=H
   go_wp2_with (first|(go_at_call 25;(with_reducible refine(zae.calls k U 32 true A B D E I J K t3 true _ A2.out).mono ?_);rintro e w7 ⟨rfl,hb⟩;replace X:=kN (g:=Z) (cs:=#[.bool true,.bool A,.bool B,.bool D,.bool E,.int .i64 I,.int .i64 J,.int .i32 K]) hb bk;replace Y:=kN (g:=aa) (cs:=#[.string t1,.string (⟨#[]⟩:ByteArray)]) hb bk;replace HB:=bN bz hb;clear hb;obtain⟨ay,az,aA,aB,aC,aD,aE,aF,aG,aH,aI,aJ,aK,aL,aM,aN⟩:=cz8 (W:=w7) X;obtain⟨aO,aP,aQ,aR⟩:=cz2 (W:=w7) Y))
   rw[rounds_succ]
   go_wp2
   go_ret2
   exact⟨ez,bz⟩
theorem zfM(k:Nat)(O U:Int)(M A B D E:Bool)(I J K:Int)(r1:ByteArray)(r2:Bool)(w:World)(H:complexH k O U 64 M A B D E I J K=some (r1,r2)):
    Calls Tryz.prog 36 #[.int .u64 O,.int .u64 U,.int .i64 128,.agg #[.bool M,.bool A,.bool B,.bool D,.bool E,.int .i64 I,.int .i64 J,.int .i32 K]] w fun e w'=>e= .returned (.tuple #[.string r1,.bool r2])∧Below w.heap.size w w':=by
 unfold complexH at H
 replace H:=bs H
 obtain⟨⟨t1,t2⟩,A1,H⟩:=H
 dsimp only at H
 have HH:=zaa.mk H
 clear H
 have bC:=Tryz.underlying26
 have bD:=Tryz.underlying91
 have bE:=Tryz.underlying92
 have bG: ∀W:World,(Instr.index 92 (.agg #[.int .u64 O,.int .u64 U]) (.int .i64 0)).run Tryz.prog W= .ok (.int .u64 O) W:=by intro W;kernel_rfl
 have bH: ∀W:World,(Instr.index 92 (.agg #[.int .u64 O,.int .u64 U]) (.int .i64 1)).run Tryz.prog W= .ok (.int .u64 U) W:=by intro W;kernel_rfl
 have HB:=zaa.mk (Below.refl w.heap.size w)
 go_enter Tryz.func36,Tryz.ntmps36
 go_wp2_with (first|((with_reducible refine zah (N:=7) rfl ?_);refine zag rfl (N:=7) rfl (cs:=#[.bool M,.bool A,.bool B,.bool D,.bool E,.int .i64 I,.int .i64 J,.int .i32 K]) (t:=26) gz ?_;intro Z hg w4 hbox hb;have bU:=gN bz hg;have X:=zaa.mk hbox;replace HB:=bN bz hb;clear hb hbox hg;obtain⟨aU,aV,aW,aX,aY,aZ,a1,a2,a3,a4,a5,a6,a7,a8,a9,ba⟩:=cz8 (W:=w4) X)|((with_reducible refine zah (N:=10) rfl ?_);refine zag rfl (N:=10) rfl (cs:=#[.string (⟨#[]⟩:ByteArray),.string (⟨#[]⟩:ByteArray)]) (t:=91) gz ?_;intro aa hg w5 hbox hb;have bV:=gN bz hg;have aS:=lN (g:=Z) (cs:=#[.bool M,.bool A,.bool B,.bool D,.bool E,.int .i64 I,.int .i64 J,.int .i32 K]) hg bk;have aT:=rN (g:=Z) (cs:=#[.bool M,.bool A,.bool B,.bool D,.bool E,.int .i64 I,.int .i64 J,.int .i32 K]) hg bk;replace X:=kN (g:=Z) (cs:=#[.bool M,.bool A,.bool B,.bool D,.bool E,.int .i64 I,.int .i64 J,.int .i32 K]) hb bk;have Y:=zaa.mk hbox;replace HB:=bN bz hb;clear hb hbox hg;have bI:=aS.out;have bJ:=aT.out;obtain⟨bb,bd,be,bf,bg,bh,bi,bj,bl,bm,bn,bo,bp,bq,br,bu⟩:=cz8 (W:=w5) X;obtain⟨bv,bw,bA,bB⟩:=cz2 (W:=w5) Y))
 refine wp_loop_rounds 3 ?_
 rw[rounds_succ]
 cases t2 with
 |false=>
  have H:=HH.out
  clear HH
  rw[if_neg (by simp)] at H
  simp only[Option.some.injEq,Prod.mk.injEq] at H
  obtain⟨rfl,rfl⟩:=H
  go_wp2_with (first|(go_at_call 25;(with_reducible refine(zae.calls k O 64 M A B D E I J K t1 false _ A1.out).mono ?_);rintro e w6 ⟨rfl,hb⟩;replace X:=kN (g:=Z) (cs:=#[.bool M,.bool A,.bool B,.bool D,.bool E,.int .i64 I,.int .i64 J,.int .i32 K]) hb bk;replace Y:=kN (g:=aa) (cs:=#[.string (⟨#[]⟩:ByteArray),.string (⟨#[]⟩:ByteArray)]) hb bk;replace HB:=bN bz hb;clear hb;obtain⟨ab,ac,ad,ae,af,ag,ah,ai,aj,ak,al,am,an,ao,ap,ar⟩:=cz8 (W:=w6) X;obtain⟨au,av,aw,ax⟩:=cz2 (W:=w6) Y))
  go_ret2
  exact⟨ez,bz⟩
 |true=>
  have H:=HH.out
  clear HH
  rw[if_pos rfl] at H
  replace H:=bs H
  obtain⟨⟨t3,t4⟩,A2,H⟩:=H
  dsimp only at H
  have HH:=zaa.mk H
  clear H
  go_wp2_with (first|(go_at_call 25;(with_reducible refine(zae.calls k O 64 M A B D E I J K t1 true _ A1.out).mono ?_);rintro e w6 ⟨rfl,hb⟩;replace X:=kN (g:=Z) (cs:=#[.bool M,.bool A,.bool B,.bool D,.bool E,.int .i64 I,.int .i64 J,.int .i32 K]) hb bk;replace Y:=kN (g:=aa) (cs:=#[.string (⟨#[]⟩:ByteArray),.string (⟨#[]⟩:ByteArray)]) hb bk;replace HB:=bN bz hb;clear hb;obtain⟨ab,ac,ad,ae,af,ag,ah,ai,aj,ak,al,am,an,ao,ap,ar⟩:=cz8 (W:=w6) X;obtain⟨au,av,aw,ax⟩:=cz2 (W:=w6) Y))
  rw[rounds_succ]
  cases t4 with
  |false=>
   have H:=HH.out
   clear HH
   rw[if_neg (by simp)] at H
   simp only[Option.some.injEq,Prod.mk.injEq] at H
   obtain⟨rfl,rfl⟩:=H
   go_wp2_with (first|(go_at_call 25;(with_reducible refine(zae.calls k U 64 true A B D E I J K t3 false _ A2.out).mono ?_);rintro e w7 ⟨rfl,hb⟩;replace X:=kN (g:=Z) (cs:=#[.bool true,.bool A,.bool B,.bool D,.bool E,.int .i64 I,.int .i64 J,.int .i32 K]) hb bk;replace Y:=kN (g:=aa) (cs:=#[.string t1,.string (⟨#[]⟩:ByteArray)]) hb bk;replace HB:=bN bz hb;clear hb;obtain⟨ay,az,aA,aB,aC,aD,aE,aF,aG,aH,aI,aJ,aK,aL,aM,aN⟩:=cz8 (W:=w7) X;obtain⟨aO,aP,aQ,aR⟩:=cz2 (W:=w7) Y))
   go_ret2
   exact⟨ez,bz⟩
  |true=>
   have H:=HH.out
   clear HH
   rw[if_pos rfl] at H
   obtain⟨c1,H⟩:=hG4 H
   obtain⟨c2,H⟩:=hG4 H
   obtain⟨c3,H⟩:=hG4 H
   have bK:=eq_true c1
   have bL:=eq_true c2
   have bM:=eq_true c3
   have bO:=eq_false (Nat.not_lt.2 c1)
   have bP:=eq_false (Nat.not_lt.2 c2)
   have bQ:=eq_false (Nat.not_lt.2 c3)
   have bR:(9223372036854775807<1+t1.size+t3.size)=False:=eq_false (by have h_:=c2;rw[ByteArray.size_append] at h_;exact Nat.not_lt.2 h_)
   have bS:(9223372036854775807<1+t1.size+t3.size+2)=False:=eq_false (by have h_:=c3;rw[ByteArray.size_append,ByteArray.size_append] at h_;exact Nat.not_lt.2 h_)
   clear c1 c2 c3
   simp only[Option.some.injEq,Prod.mk.injEq] at H
   obtain⟨rfl,rfl⟩:=H
   go_wp2_with (first|(go_at_call 25;(with_reducible refine(zae.calls k U 64 true A B D E I J K t3 true _ A2.out).mono ?_);rintro e w7 ⟨rfl,hb⟩;replace X:=kN (g:=Z) (cs:=#[.bool true,.bool A,.bool B,.bool D,.bool E,.int .i64 I,.int .i64 J,.int .i32 K]) hb bk;replace Y:=kN (g:=aa) (cs:=#[.string t1,.string (⟨#[]⟩:ByteArray)]) hb bk;replace HB:=bN bz hb;clear hb;obtain⟨ay,az,aA,aB,aC,aD,aE,aF,aG,aH,aI,aJ,aK,aL,aM,aN⟩:=cz8 (W:=w7) X;obtain⟨aO,aP,aQ,aR⟩:=cz2 (W:=w7) Y))
   rw[rounds_succ]
   go_wp2
   go_ret2
   exact⟨ez,bz⟩
theorem zaX.calls(k:Nat)(O U:Int)(a1:Int)(A B D E I:Bool)(J K M:Int)(r1:ByteArray)(r2:Bool)(w:World)(h:zaX.f k O U a1 A B D E I J K M=some (r1,r2)):
    Calls Tryz.prog 36 #[.int .u64 O,.int .u64 U,.int .i64 a1,.agg #[.bool A,.bool B,.bool D,.bool E,.bool I,.int .i64 J,.int .i64 K,.int .i32 M]] w fun e w'=>e= .returned (.tuple #[.string r1,.bool r2])∧Below w.heap.size w w':=by
 unfold zaX.f at h
 by_cases d1:a1=64
 · rw[if_pos d1] at h
   subst d1
   exact zgx k O U A B D E I J K M r1 r2 w h
 · rw[if_neg d1] at h
   by_cases d2:a1=128
   · rw[if_pos d2] at h
     subst d2
     exact zfM k O U A B D E I J K M r1 r2 w h
   · rw[if_neg d2] at h
     simp only[Option.some.injEq,Prod.mk.injEq] at h
     obtain⟨rfl,rfl⟩:=h
     obtain⟨e1,e2⟩:=eF d1
     obtain⟨e3,e4⟩:=eF d2
     have ao:=Tryz.underlying26
     have HB:=zaa.mk (Below.refl w.heap.size w)
     go_enter Tryz.func36,Tryz.ntmps36
     go_wp2_with (first|((with_reducible refine zah (N:=7) rfl ?_);refine zag rfl (N:=7) rfl (cs:=#[.bool A,.bool B,.bool D,.bool E,.bool I,.int .i64 J,.int .i64 K,.int .i32 M]) (t:=26) gz ?_;intro ap hg w4 hbox hb;have ar:=gN bz hg;have an:=zaa.mk hbox;replace HB:=bN bz hb;clear hb hbox hg;obtain⟨X,Y,Z,aa,ab,ac,ad,ae,af,ag,ah,ai,aj,ak,al,am⟩:=cz8 (W:=w4) an))
     go_ret2
     exact⟨ez,bz⟩
def za5.f(k:Nat):Option (Bool):=(zaX.f k 4609434218613702656 13835058055282163712 128 false false false false false (-1) (-1) 118).bind fun B=>((zal.f k (⟨#[40,49,101,43,48,54,45,50,105,41]⟩:ByteArray)).bind fun A=>((zal.f k (⟨#[40,49,105,41]⟩:ByteArray)).bind fun D=>(if B.2=true then(if A.2.2=true then(if D.2.2=true then(some false) else(if B.1.toList=([40,49,46,53,45,50,105,41]:List UInt8) then(if A.1.toList=([49,101,43,48,54]:List UInt8) then(some (A.2.1.toList==([45,50]:List UInt8))) else(some false)) else(some false))) else(some false)) else(some false))))
theorem za5.calls(k:Nat)(r:Bool)(w:World)(h:za5.f k=some r):
  Calls Tryz.prog 38 #[] w fun e w'=>e= .returned (.bool r)∧Below w.heap.size w w':=by
 have ac:=Tryz.underlying26
 have HB:=zaa.mk (Below.refl w.heap.size w)
 have H:((zaX.f k 4609434218613702656 13835058055282163712 128 false false false false false (-1) (-1) 118).bind fun M=>((zal.f k (⟨#[40,49,101,43,48,54,45,50,105,41]⟩:ByteArray)).bind fun J=>((zal.f k (⟨#[40,49,105,41]⟩:ByteArray)).bind fun U=>(if M.2=true then(if J.2.2=true then(if U.2.2=true then(some false) else(if M.1.toList=([40,49,46,53,45,50,105,41]:List UInt8) then(if J.1.toList=([49,101,43,48,54]:List UInt8) then(some (J.2.1.toList==([45,50]:List UInt8))) else(some false)) else(some false))) else(some false)) else(some false)))))=some r:=h
 clear h
 replace H:=bs H
 obtain⟨⟨A,X⟩,A1,H⟩:=H
 dsimp only at H
 replace H:=bs H
 obtain⟨⟨B,D,O⟩,A2,H⟩:=H
 dsimp only at H
 replace H:=bs H
 obtain⟨⟨E,I,K⟩,A3,H⟩:=H
 dsimp only at H
 by_cases c4:X=true
 case neg=>
  replace c4:=Bool.eq_false_iff.mpr c4
  subst c4
  replace H:=hF H
  obtain rfl:=Option.some.inj H
  go_enter Tryz.func38,Tryz.ntmps38
  go_wp2_with (first|((with_reducible refine zad (f:=36) rfl ?_);refine gB Tryz.func36 (zaX.calls k 4609434218613702656 13835058055282163712 128 false false false false false (-1) (-1) 118 A false _ A1.out) ?_;intro ah hb;replace HB:=bN bz hb;clear hb)|((with_reducible refine zad (f:=39) rfl ?_);refine za3 (some 15) rfl rfl Tryz.func39 (by kernel_rfl) rfl #[.string (⟨#[40,49,101,43,48,54,45,50,105,41]⟩:ByteArray)] rfl lz ?_;(with_reducible refine(zal.calls k (⟨#[40,49,101,43,48,54,45,50,105,41]⟩:ByteArray) B D O _ A2.out).mono ?_);rintro e w' ⟨rfl,⟨nd,rfl⟩⟩;refine⟨_,rfl,?_⟩)|((with_reducible refine zad (f:=39) rfl ?_);refine za3 (some 20) rfl rfl Tryz.func39 (by kernel_rfl) rfl #[.string (⟨#[40,49,105,41]⟩:ByteArray)] rfl lz ?_;(with_reducible refine(zal.calls k (⟨#[40,49,105,41]⟩:ByteArray) E I K _ A3.out).mono ?_);rintro e w' ⟨rfl,⟨nd,rfl⟩⟩;refine⟨_,rfl,?_⟩))
  go_ret
  exact⟨ez,bz⟩
 subst c4
 replace H:=hT H
 by_cases c5:O=true
 case neg=>
  replace c5:=Bool.eq_false_iff.mpr c5
  subst c5
  replace H:=hF H
  obtain rfl:=Option.some.inj H
  go_enter Tryz.func38,Tryz.ntmps38
  go_wp2_with (first|((with_reducible refine zad (f:=36) rfl ?_);refine gB Tryz.func36 (zaX.calls k 4609434218613702656 13835058055282163712 128 false false false false false (-1) (-1) 118 A true _ A1.out) ?_;intro ag hb;replace HB:=bN bz hb;clear hb)|((with_reducible refine zad (f:=39) rfl ?_);refine za3 (some 15) rfl rfl Tryz.func39 (by kernel_rfl) rfl #[.string (⟨#[40,49,101,43,48,54,45,50,105,41]⟩:ByteArray)] rfl lz ?_;(with_reducible refine(zal.calls k (⟨#[40,49,101,43,48,54,45,50,105,41]⟩:ByteArray) B D false _ A2.out).mono ?_);rintro e w' ⟨rfl,⟨nd,rfl⟩⟩;refine⟨_,rfl,?_⟩)|((with_reducible refine zad (f:=39) rfl ?_);refine za3 (some 20) rfl rfl Tryz.func39 (by kernel_rfl) rfl #[.string (⟨#[40,49,105,41]⟩:ByteArray)] rfl lz ?_;(with_reducible refine(zal.calls k (⟨#[40,49,105,41]⟩:ByteArray) E I K _ A3.out).mono ?_);rintro e w' ⟨rfl,⟨nd,rfl⟩⟩;refine⟨_,rfl,?_⟩))
  go_ret
  exact⟨ez,bz⟩
 subst c5
 replace H:=hT H
 by_cases c6:K=true
 ·subst c6
  replace H:=hT H
  obtain rfl:=Option.some.inj H
  go_enter Tryz.func38,Tryz.ntmps38
  go_wp2_with (first|((with_reducible refine zad (f:=36) rfl ?_);refine gB Tryz.func36 (zaX.calls k 4609434218613702656 13835058055282163712 128 false false false false false (-1) (-1) 118 A true _ A1.out) ?_;intro w7 hb;replace HB:=bN bz hb;clear hb)|((with_reducible refine zad (f:=39) rfl ?_);refine za3 (some 15) rfl rfl Tryz.func39 (by kernel_rfl) rfl #[.string (⟨#[40,49,101,43,48,54,45,50,105,41]⟩:ByteArray)] rfl lz ?_;(with_reducible refine(zal.calls k (⟨#[40,49,101,43,48,54,45,50,105,41]⟩:ByteArray) B D true _ A2.out).mono ?_);rintro e w' ⟨rfl,⟨nd,rfl⟩⟩;refine⟨_,rfl,?_⟩)|((with_reducible refine zad (f:=39) rfl ?_);refine za3 (some 20) rfl rfl Tryz.func39 (by kernel_rfl) rfl #[.string (⟨#[40,49,105,41]⟩:ByteArray)] rfl lz ?_;(with_reducible refine(zal.calls k (⟨#[40,49,105,41]⟩:ByteArray) E I true _ A3.out).mono ?_);rintro e w' ⟨rfl,⟨nd,rfl⟩⟩;refine⟨_,rfl,?_⟩))
  go_ret
  exact⟨ez,bz⟩
 replace c6:=Bool.eq_false_iff.mpr c6
 subst c6
 replace H:=hF H
 by_cases c8:A.toList=([40,49,46,53,45,50,105,41]:List UInt8)
 case neg=>
  replace H:=hN H c8
  have Y:(A.toList==([40,49,46,53,45,50,105,41]:List UInt8))=false:=beq_eq_false_iff_ne.mpr c8
  have Z:(A.toList !=([40,49,46,53,45,50,105,41]:List UInt8))=true:=bne_iff_ne.mpr c8
  obtain rfl:=Option.some.inj H
  go_enter Tryz.func38,Tryz.ntmps38
  go_wp2_with (first|((with_reducible refine zad (f:=36) rfl ?_);refine gB Tryz.func36 (zaX.calls k 4609434218613702656 13835058055282163712 128 false false false false false (-1) (-1) 118 A true _ A1.out) ?_;intro af hb;replace HB:=bN bz hb;clear hb)|((with_reducible refine zad (f:=39) rfl ?_);refine za3 (some 15) rfl rfl Tryz.func39 (by kernel_rfl) rfl #[.string (⟨#[40,49,101,43,48,54,45,50,105,41]⟩:ByteArray)] rfl lz ?_;(with_reducible refine(zal.calls k (⟨#[40,49,101,43,48,54,45,50,105,41]⟩:ByteArray) B D true _ A2.out).mono ?_);rintro e w' ⟨rfl,⟨nd,rfl⟩⟩;refine⟨_,rfl,?_⟩)|((with_reducible refine zad (f:=39) rfl ?_);refine za3 (some 20) rfl rfl Tryz.func39 (by kernel_rfl) rfl #[.string (⟨#[40,49,105,41]⟩:ByteArray)] rfl lz ?_;(with_reducible refine(zal.calls k (⟨#[40,49,105,41]⟩:ByteArray) E I false _ A3.out).mono ?_);rintro e w' ⟨rfl,⟨nd,rfl⟩⟩;refine⟨_,rfl,?_⟩))
  go_ret
  exact⟨ez,bz⟩
 replace H:=hE H c8
 have Y:(A.toList==([40,49,46,53,45,50,105,41]:List UInt8))=true:=beq_iff_eq.mpr c8
 have Z:(A.toList !=([40,49,46,53,45,50,105,41]:List UInt8))=false:=bne_eq_false_iff_eq.mpr c8
 clear c8
 by_cases c9:B.toList=([49,101,43,48,54]:List UInt8)
 ·replace H:=hE H c9
  have aa:(B.toList==([49,101,43,48,54]:List UInt8))=true:=beq_iff_eq.mpr c9
  have ab:(B.toList !=([49,101,43,48,54]:List UInt8))=false:=bne_eq_false_iff_eq.mpr c9
  clear c9
  obtain rfl:=Option.some.inj H
  go_enter Tryz.func38,Tryz.ntmps38
  go_wp2_with (first|((with_reducible refine zad (f:=36) rfl ?_);refine gB Tryz.func36 (zaX.calls k 4609434218613702656 13835058055282163712 128 false false false false false (-1) (-1) 118 A true _ A1.out) ?_;intro ad hb;replace HB:=bN bz hb;clear hb)|((with_reducible refine zad (f:=39) rfl ?_);refine za3 (some 15) rfl rfl Tryz.func39 (by kernel_rfl) rfl #[.string (⟨#[40,49,101,43,48,54,45,50,105,41]⟩:ByteArray)] rfl lz ?_;(with_reducible refine(zal.calls k (⟨#[40,49,101,43,48,54,45,50,105,41]⟩:ByteArray) B D true _ A2.out).mono ?_);rintro e w' ⟨rfl,⟨nd,rfl⟩⟩;refine⟨_,rfl,?_⟩)|((with_reducible refine zad (f:=39) rfl ?_);refine za3 (some 20) rfl rfl Tryz.func39 (by kernel_rfl) rfl #[.string (⟨#[40,49,105,41]⟩:ByteArray)] rfl lz ?_;(with_reducible refine(zal.calls k (⟨#[40,49,105,41]⟩:ByteArray) E I false _ A3.out).mono ?_);rintro e w' ⟨rfl,⟨nd,rfl⟩⟩;refine⟨_,rfl,?_⟩))
  go_ret
  exact⟨ez,bz⟩
 replace H:=hN H c9
 have aa:(B.toList==([49,101,43,48,54]:List UInt8))=false:=beq_eq_false_iff_ne.mpr c9
 have ab:(B.toList !=([49,101,43,48,54]:List UInt8))=true:=bne_iff_ne.mpr c9
 obtain rfl:=Option.some.inj H
 go_enter Tryz.func38,Tryz.ntmps38
 go_wp2_with (first|((with_reducible refine zad (f:=36) rfl ?_);refine gB Tryz.func36 (zaX.calls k 4609434218613702656 13835058055282163712 128 false false false false false (-1) (-1) 118 A true _ A1.out) ?_;intro ae hb;replace HB:=bN bz hb;clear hb)|((with_reducible refine zad (f:=39) rfl ?_);refine za3 (some 15) rfl rfl Tryz.func39 (by kernel_rfl) rfl #[.string (⟨#[40,49,101,43,48,54,45,50,105,41]⟩:ByteArray)] rfl lz ?_;(with_reducible refine(zal.calls k (⟨#[40,49,101,43,48,54,45,50,105,41]⟩:ByteArray) B D true _ A2.out).mono ?_);rintro e w' ⟨rfl,⟨nd,rfl⟩⟩;refine⟨_,rfl,?_⟩)|((with_reducible refine zad (f:=39) rfl ?_);refine za3 (some 20) rfl rfl Tryz.func39 (by kernel_rfl) rfl #[.string (⟨#[40,49,105,41]⟩:ByteArray)] rfl lz ?_;(with_reducible refine(zal.calls k (⟨#[40,49,105,41]⟩:ByteArray) E I false _ A3.out).mono ?_);rintro e w' ⟨rfl,⟨nd,rfl⟩⟩;refine⟨_,rfl,?_⟩))
 go_ret
 exact⟨ez,bz⟩
end
end Go.Proofs.YtecpgdfnamkfdaaGreatDoor.Fn
end
section
namespace Go.Proofs.YtecpgdfnamkfdaaGreatDoor.Pure
open Go.RowKit Go.Proofs.YtecpgdfnamkfdaaGreatDoorW.PrintWords Go.Proofs.YtecpgdfnamkfdaaGreatDoorW.PrintLast Go.Proofs.YtecpgdfnamkfdaaGreatDoorW.PrintMore Go.Proofs.YtecpgdfnamkfdaaGreatDoor.Fn
set_option linter.unusedVariables false
set_option linter.unusedSimpArgs false
def textL(wide:Bool)(a:Nat)(plus minus sharp space zero:Bool)(wid prec v:Int):List UInt8:=
  if bareN wide a<ii wide then endL (signL (a / tt wide%2==1) 0 plus space) (restL wide (bareN wide a) (fM (ff wide) (bareN wide a)) ((fE (ff wide) (bareN wide a):Int)-(ll wide:Int)) (clamp prec) v sharp) minus zero wid
  else if bareN wide a=ii wide then endL (signL (a / tt wide%2==1) 1 plus space) [73,110,102] minus false wid
  else endL (signL (a / tt wide%2==1) 2 plus space) [78,97,78] minus false wid
theorem zdI(wide:Bool)(a:Nat)(plus minus sharp space zero:Bool)(wid prec v:Int)(h:codeV v≠0):floatS wide a plus minus sharp space zero wid prec v=(S (textL wide a plus minus sharp space zero wid prec v),true):=by
  unfold floatS textL
  rw[if_neg h]
  by_cases c1:bareN wide a<ii wide
  · rw[if_pos c1,if_pos c1]
  · rw[if_neg c1,if_neg c1]
    by_cases c2:bareN wide a=ii wide
    · rw[if_pos c2,if_pos c2]
    · rw[if_neg c2,if_neg c2]
theorem zeT(wide:Bool)(a:Nat)(plus minus sharp space zero:Bool)(wid prec v:Int)(h:codeV v=0):floatS wide a plus minus sharp space zero wid prec v=(⟨#[]⟩,false):=by
  unfold floatS
  rw[if_pos h]
theorem zhV(l:List UInt8)(m z:Bool)(wid:Int):(padL l m z wid).length≤l.length+1000:=by
  unfold padL
  cases m<;>cases z<;>simp<;>omega
theorem zdX(sign rest:List UInt8)(m z:Bool)(wid:Int):(endL sign rest m z wid).length≤sign.length+rest.length+2000:=by
  unfold endL
  have h:=zhV (sign++(if(z&& !m)=true then List.replicate (max 0 (min wid 1000)-sign.length-rest.length).toNat 48++rest else rest)) m false wid
  have h2:(if(z&& !m)=true then List.replicate (max 0 (min wid 1000)-sign.length-rest.length).toNat 48++rest else rest).length≤rest.length+1000:=by
    split
    · rw[List.length_append,List.length_replicate];omega
    · omega
  rw[List.length_append] at h
  omega
theorem zcQ(wide:Bool)(a:Nat)(plus minus sharp space zero:Bool)(wid prec v:Int):(textL wide a plus minus sharp space zero wid prec v).length≤200000:=by
  have hs:=fun k=>(zdd (a / tt wide%2==1) k plus space).1
  unfold textL
  by_cases c1:bareN wide a<ii wide
  · rw[if_pos c1]
    have hb:=fEl wide (Nat.le_of_lt c1)
    have A:=zcN wide (Nat.le_of_lt c1)
    have hfit:=(zfv wide c1 (m:=fM (ff wide) (bareN wide a)) (by omega) (e:=(fE (ff wide) (bareN wide a):Int)-(ll wide:Int)) (by omega) (zdW prec) v sharp).2
    have h0:=hs 0
    have h:=zdX (signL (a / tt wide%2==1) 0 plus space) (restL wide (bareN wide a) (fM (ff wide) (bareN wide a)) ((fE (ff wide) (bareN wide a):Int)-(ll wide:Int)) (clamp prec) v sharp) minus zero wid
    omega
  · rw[if_neg c1]
    by_cases c2:bareN wide a=ii wide
    · rw[if_pos c2]
      have h0:=hs 1
      have h:=zdX (signL (a / tt wide%2==1) 1 plus space) [73,110,102] minus false wid
      simp at h
      omega
    · rw[if_neg c2]
      have h0:=hs 2
      have h:=zdX (signL (a / tt wide%2==1) 2 plus space) [78,97,78] minus false wid
      simp at h
      omega
def szC(wide:Bool):Int:=if wide then 128 else 64
def cplxS(wide:Bool)(a b:Nat)(plus minus sharp space zero:Bool)(wid prec v:Int):ByteArray×Bool:=
  if codeV v=0 then(⟨#[]⟩,false) else(S ([40]++(textL wide a plus minus sharp space zero wid prec v++(textL wide b true minus sharp space zero wid prec v++[105,41]))),true)
theorem zf9(wide:Bool){a b:Nat}(ha:a<18446744073709551616)(hb:b<18446744073709551616)(plus minus sharp space zero:Bool)(wid prec v:Int):
    Ev (fun k=>complexH k (a:Int) (b:Int) (szB wide) plus minus sharp space zero wid prec v) (cplxS wide a b plus minus sharp space zero wid prec v):=by
  have f1:=zdf wide ha plus minus sharp space zero wid prec v
  have f2:=zdf wide hb true minus sharp space zero wid prec v
  unfold complexH cplxS
  by_cases c:codeV v=0
  · rw[if_pos c]
    rw[zeT _ _ _ _ _ _ _ _ _ _ c] at f1
    refine Ev.bind f1 ?_
    exact Ev.congr (fun k=>if_neg (by simp)) (Ev.now _)
  · rw[if_neg c]
    rw[zdI _ _ _ _ _ _ _ _ _ _ c] at f1 f2
    have l1:=zcQ wide a plus minus sharp space zero wid prec v
    have l2:=zcQ wide b true minus sharp space zero wid prec v
    generalize textL wide a plus minus sharp space zero wid prec v=A at*
    generalize textL wide b true minus sharp space zero wid prec v=B at*
    refine Ev.bind f1 ?_
    refine Ev.congr (fun k=>if_pos (by first|rfl|trivial)) ?_
    refine Ev.bind f2 ?_
    refine Ev.congr (fun k=>if_pos (by first|rfl|trivial)) ?_
    show Ev (fun k=>if 1+(S A).size≤9223372036854775807 then(if((⟨#[40]⟩:ByteArray)++S A).size+(S B).size≤9223372036854775807 then(if(((⟨#[40]⟩:ByteArray)++S A)++S B).size+2≤9223372036854775807 then some ((((⟨#[40]⟩:ByteArray)++S A)++S B)++(⟨#[105,41]⟩:ByteArray),true) else none) else none) else none) _
    rw[show(⟨#[40]⟩:ByteArray)=S [40] from rfl,show(⟨#[105,41]⟩:ByteArray)=S [105,41] from rfl,zbq,zbq,zbq]
    refine Ev.congr (fun k=>if_pos (by rw[zaw];omega)) ?_
    refine Ev.congr (fun k=>if_pos (by rw[zaw,zaw,List.length_append,List.length_singleton];omega)) ?_
    refine Ev.congr (fun k=>if_pos (by rw[zaw,List.length_append,List.length_append,List.length_singleton];omega)) ?_
    rw[show([40]++A++B)++[105,41]=[40]++(A++(B++[105,41])) by simp]
    exact Ev.now _
theorem zei(wide:Bool){a b:Nat}(ha:a<18446744073709551616)(hb:b<18446744073709551616)(plus minus sharp space zero:Bool)(wid prec v:Int):
    Ev (fun k=>zaX.f k (a:Int) (b:Int) (szC wide) plus minus sharp space zero wid prec v) (cplxS wide a b plus minus sharp space zero wid prec v):=by
  unfold zaX.f
  cases wide with
  |false=>exact Ev.congr (fun k=>if_pos rfl) (zf9 false ha hb plus minus sharp space zero wid prec v)
  |true=>
    refine Ev.congr (fun k=>if_neg (by decide)) ?_
    exact Ev.congr (fun k=>if_pos rfl) (zf9 true ha hb plus minus sharp space zero wid prec v)
def isSg(c:UInt8):Bool:=c==43||c==45
def isEx(c:UInt8):Bool:=c==101||c==69||c==112||c==80
def cutN(l:List UInt8):Nat→Nat
  |0=>0
  |i+1=>if isSg (l.getD (i+1) 0)=true∧isEx (l.getD i 0)=false then i+1 else cutN l i
def outL(l:List UInt8)(c:Nat):ByteArray×ByteArray×Bool:=if c=0 then(⟨#[]⟩,⟨#[]⟩,false) else(S (l.take c),S (l.drop c),true)
def splitS(l:List UInt8):ByteArray×ByteArray×Bool:=
  if(Lib.hasPrefix l [40]&&Lib.hasSuffix (Lib.trimPrefix l [40]) [105,41])=true then
    outL (Lib.trimSuffix (Lib.trimPrefix l [40]) [105,41]) (cutN (Lib.trimSuffix (Lib.trimPrefix l [40]) [105,41]) ((Lib.trimSuffix (Lib.trimPrefix l [40]) [105,41]).length-1))
  else(⟨#[]⟩,⟨#[]⟩,false)
theorem zga(l:List UInt8){i:Nat}(h:i<l.length):bt (S l) (i:Int)=((l.getD i 0).toNat:Int):=by
  rw[bt_L (S l) i (by rw[zaw];exact h),List.getD_eq_getElem?_getD,List.getElem?_eq_getElem h]
  simp[L_S]
theorem zhW(c:UInt8):(Lib.indexByte [101,69,112,80] c<0)↔isEx c=false:=by
  have key: ∀i:Fin 256,decide (Lib.indexByte [101,69,112,80] (UInt8.ofNat i.val)<0)= !(isEx (UInt8.ofNat i.val)):=by decide+kernel
  have h:=key ⟨c.toNat,c.toNat_lt⟩
  rw[UInt8.ofNat_toNat] at h
  rw[←decide_eq_true_iff (p:=Lib.indexByte [101,69,112,80] c<0),h]
  cases isEx c<;>simp
theorem zfy(c:UInt8):isSg c=true↔((c.toNat:Int)=43∨(c.toNat:Int)=45):=by
  have key: ∀i:Fin 256,isSg (UInt8.ofNat i.val)=decide (((UInt8.ofNat i.val).toNat:Int)=43∨((UInt8.ofNat i.val).toNat:Int)=45):=by decide+kernel
  have h:=key ⟨c.toNat,c.toNat_lt⟩
  rw[UInt8.ofNat_toNat] at h
  rw[h,decide_eq_true_iff]
theorem zjo(l:List UInt8){c:Nat}(hc:c≤l.length):(if(c:Int)=0 then(some ((⟨#[]⟩:ByteArray),(⟨#[]⟩:ByteArray),false)) else(if 0≤(c:Int) then(if(c:Int)≤((S l).size:Int) then(some ((S l).extract 0 (c:Int).toNat,(S l).extract (c:Int).toNat (S l).size,true)) else(none)) else(none)))=some (outL l c):=by
  unfold outL
  by_cases h:c=0
  · rw[if_pos (by omega),if_pos h]
  · rw[if_neg (by omega),if_neg h,if_pos (by omega),if_pos (by rw[zaw];omega),Int.toNat_natCast,zb3,zeu]
theorem zej{l:List UInt8}(hl:l.length≤1000000000): ∀i:Nat,i<l.length→Ev (fun k=>zal.l0 k (S l) 0 (i:Int)) (outL l (cutN l i))
  |0,h=>by
    refine Ev.step (fun k=>by simp only[zal.l0];rfl) ?_
    refine Ev.congr (fun k=>if_neg (by decide)) ?_
    exact Ev.congr (fun k=>if_pos (by first|rfl|trivial)) (Ev.now _)
  |i+1,h=>by
    have hw:wrap64 (((i+1:Nat):Int)-1)=(i:Int):=by rw[w64 (by omega) (by omega)];omega
    have ih:=zej hl i (by omega)
    have hb:=zga l h
    have B:=zga l (i:=i) (by omega)
    have hsg:=zfy (l.getD (i+1) 0)
    have hex:=zhW (l.getD i 0)
    have hcut:cutN l (i+1)=if isSg (l.getD (i+1) 0)=true∧isEx (l.getD i 0)=false then i+1 else cutN l i:=rfl
    refine Ev.step (fun k=>by simp only[zal.l0];rfl) ?_
    refine Ev.congr (fun k=>if_pos (by omega)) ?_
    refine Ev.congr (fun k=>if_pos (by omega)) ?_
    refine Ev.congr (fun k=>if_pos (by rw[zaw];omega)) ?_
    rw[hb]
    have A:isSg (l.getD (i+1) 0)=true→Ev (fun k=>zal.j2 k (S l) 0 ((i+1:Nat):Int) true) (outL l (cutN l (i+1))):=by
      intro hs
      refine Ev.step (fun k=>by simp only[zal.j2];rfl) ?_
      refine Ev.congr (fun k=>if_pos (by first|rfl|trivial)) ?_
      rw[hw]
      refine Ev.congr (fun k=>if_pos (by omega)) ?_
      refine Ev.congr (fun k=>if_pos (by rw[zaw];omega)) ?_
      rw[B]
      unfold strings_IndexByte.f
      simp only[Option.bind_some]
      have hu:(((l.getD i 0).toNat:Int)).toNat.toUInt8=l.getD i 0:=by rw[Int.toNat_natCast];exact UInt8.ofNat_toNat
      rw[hu]
      by_cases c:isEx (l.getD i 0)=false
      · refine Ev.congr (fun k=>if_pos (hex.2 c)) ?_
        have hcy:cutN l (i+1)=i+1:=by rw[hcut,if_pos ⟨hs,c⟩]
        rw[hcy]
        exact Ev.congr (fun k=>zjo l (c:=i+1) (by omega)) (Ev.now _)
      · refine Ev.congr (fun k=>if_neg (fun e=>c (hex.1 e))) ?_
        have hcn:cutN l (i+1)=cutN l i:=by rw[hcut,if_neg (fun e=>c e.2)]
        rw[hcn]
        exact ih
    have D: ¬isSg (l.getD (i+1) 0)=true→Ev (fun k=>zal.j2 k (S l) 0 ((i+1:Nat):Int) false) (outL l (cutN l (i+1))):=by
      intro hs
      refine Ev.step (fun k=>by simp only[zal.j2];rfl) ?_
      refine Ev.congr (fun k=>if_neg (by simp)) ?_
      have hcn:cutN l (i+1)=cutN l i:=by rw[hcut,if_neg (fun e=>hs e.1)]
      rw[hw,hcn]
      exact ih
    by_cases c1:(((l.getD (i+1) 0).toNat:Nat):Int)=43
    · refine Ev.congr (fun k=>if_pos c1) ?_
      rw[show((((l.getD (i+1) 0).toNat:Nat):Int)==43)=true from beq_iff_eq.mpr c1]
      exact A (hsg.2 (.inl c1))
    · refine Ev.congr (fun k=>if_neg c1) ?_
      by_cases c2:(((l.getD (i+1) 0).toNat:Nat):Int)=45
      · rw[show((((l.getD (i+1) 0).toNat:Nat):Int)==45)=true from beq_iff_eq.mpr c2]
        exact A (hsg.2 (.inr c2))
      · rw[show((((l.getD (i+1) 0).toNat:Nat):Int)==45)=false from beq_eq_false_iff_ne.mpr c2]
        exact D (fun e=>(hsg.1 e).elim c1 c2)
theorem zhm(l p:List UInt8):(Lib.trimPrefix l p).length≤l.length:=by
  unfold Lib.trimPrefix
  split
  · rw[List.length_drop];omega
  · omega
theorem zhn(l p:List UInt8):(Lib.trimSuffix l p).length≤l.length:=by
  unfold Lib.trimSuffix
  split
  · rw[List.length_take];omega
  · omega
theorem zdY(l:List UInt8)(hl:l.length≤1000000000):Ev (fun k=>zal.f k (S l)) (splitS l):=by
  have h1:=zhm l [40]
  have h2:=zhn (Lib.trimPrefix l [40]) [105,41]
  have e1:strings_CutPrefix.f (S l) (⟨#[40]⟩:ByteArray)=some (S (Lib.trimPrefix l [40]),Lib.hasPrefix l [40]):=rfl
  have e2:strings_CutSuffix.f (S (Lib.trimPrefix l [40])) (⟨#[105,41]⟩:ByteArray)=some (S (Lib.trimSuffix (Lib.trimPrefix l [40]) [105,41]),Lib.hasSuffix (Lib.trimPrefix l [40]) [105,41]):=by
    unfold strings_CutSuffix.f
    rw[if_pos (by rw[zaw];omega)]
    rfl
  unfold zal.f splitS
  rw[e1]
  simp only[Option.bind_some]
  rw[e2]
  simp only[Option.bind_some]
  generalize Lib.trimSuffix (Lib.trimPrefix l [40]) [105,41]=t at*
  have jn:Ev (fun k=>zal.j0 k (S t) true) (⟨#[]⟩,⟨#[]⟩,false):=by
    refine Ev.step (fun k=>by simp only[zal.j0];rfl) ?_
    exact Ev.congr (fun k=>if_pos (by first|rfl|trivial)) (Ev.now _)
  have jy:Ev (fun k=>zal.j0 k (S t) false) (outL t (cutN t (t.length-1))):=by
    refine Ev.step (fun k=>by simp only[zal.j0];rfl) ?_
    refine Ev.congr (fun k=>if_neg (by simp)) ?_
    rw[zaw]
    cases t with
    |nil=>
      rw[w64 (by decide) (by decide)]
      refine Ev.step (fun k=>by simp only[zal.l0];rfl) ?_
      refine Ev.congr (fun k=>if_neg (by decide)) ?_
      exact Ev.congr (fun k=>if_pos (by first|rfl|trivial)) (Ev.now _)
    |cons c t=>
      have h3:(c::t).length-1<(c::t).length:=by simp
      have h:=zej (l:=c::t) (by omega) ((c::t).length-1) h3
      rw[w64 (by simp) (by omega),show(((c::t).length:Nat):Int)-1=(((c::t).length-1:Nat):Int) by simp]
      exact h
  cases Lib.hasPrefix l [40] with
  |false=>
    refine Ev.congr (fun k=>if_neg (by simp)) ?_
    exact jn
  |true=>
    refine Ev.congr (fun k=>if_pos rfl) ?_
    cases Lib.hasSuffix (Lib.trimPrefix l [40]) [105,41] with
    |false=>exact jn
    |true=>exact jy
theorem zjE:exV true 4607182418800017408=([49],1):=by decide+kernel
theorem zie:exV true 4611686018427387904=([50],1):=by decide+kernel
theorem zjp:exV true 4609434218613702656=([49,53],1):=by decide+kernel
theorem zgb{p:Nat}(hp:p<ii true){c:UInt8}(h:exV true p=([c],1)):rdX true (dX true (dig c) 0)=p:=by
  have hx:=zjD true hp
  rw[h] at hx
  have hv:val [c]=dig c:=by
    have:=zbF [] c
    rw[za9] at this
    simpa using this
  rw[hv] at hx
  have e:((1:Int)-(([c]:List UInt8).length:Int))=0:=by simp
  rw[e] at hx
  rw[hx]
  exact zhT true hp
theorem zho:shortD true 4611686018427387904=([50],1):=by
  unfold shortD
  rw[zie]
  show shortGo true _ ([50],1) 1 1=_
  rw[zb9,zcD _ _ _ (by decide)]
  rfl
theorem zgy:shortD true 4609434218613702656=([49,53],1):=by
  have r2:=zgb (p:=4611686018427387904) (c:=50) (by decide) zie
  have r1:=zgb (p:=4607182418800017408) (c:=49) (by decide) zjE
  rw[show dig 50=2 by decide] at r2
  rw[show dig 49=1 by decide] at r1
  have hn:nearU ([49,53],1) 1=2:=by decide+kernel
  have hc:cU ([49,53],1) 1=1:=by decide+kernel
  have hE:cE (([49,53],1):List UInt8×Int) 1=0:=rfl
  have hb:bestD true 4609434218613702656 ([49,53],1) 1=none:=by
    have n2: ¬isP true 4609434218613702656 2 0:=fun e=>absurd (r2.symm.trans e) (by decide)
    have n1: ¬isP true 4609434218613702656 1 0:=fun e=>absurd (r1.symm.trans e) (by decide)
    have n3: ¬isP true 4609434218613702656 (1+1) 0:=n2
    unfold bestD
    rw[if_neg (by decide),hn,hc,hE,if_neg n2,if_neg n1,if_neg n3]
  unfold shortD
  rw[zjp]
  show shortGo true _ ([49,53],1) 2 1=_
  rw[zb9,hb,Option.getD_none,zb9,zcD _ _ _ (by decide)]
  rfl
theorem zhp{a p:Nat}{l:List UInt8×Int}(hp:p<ii true)(h0:p≠0)(hb:bareN true a=p)(hs:shortD true p=l)(plus:Bool):textL true a plus false false false false (-1) (-1) 118=signL (a / tt true%2==1) 0 plus false++genL false false l 6 21:=by
  unfold textL
  rw[hb,if_pos hp,zdg _ _ _ _ (by decide)]
  congr 1
  unfold restL genOf shortL
  rw[show codeV 118=3 from rfl,if_neg (by decide),if_neg (by decide),if_pos rfl,if_pos (by decide),if_neg h0,hs]
  rfl
theorem zfN:cplxS true 4609434218613702656 13835058055282163712 false false false false false (-1) (-1) 118=(S [40,49,46,53,45,50,105,41],true):=by
  unfold cplxS
  rw[show codeV 118=3 from rfl,if_neg (by decide),zhp (p:=4609434218613702656) (by decide) (by decide) (by decide) zgy,zhp (p:=4611686018427387904) (by decide) (by decide) (by decide) zho]
  decide
theorem zjq:Ev (fun k=>za5.f k) true:=by
  have h1:=zei true (a:=4609434218613702656) (b:=13835058055282163712) (by decide) (by decide) false false false false false (-1) (-1) 118
  rw[zfN] at h1
  have h2:=zdY [40,49,101,43,48,54,45,50,105,41] (by decide)
  rw[show splitS [40,49,101,43,48,54,45,50,105,41]=(S [49,101,43,48,54],S [45,50],true) from by decide] at h2
  have h3:=zdY [40,49,105,41] (by decide)
  rw[show splitS [40,49,105,41]=(⟨#[]⟩,⟨#[]⟩,false) from by decide] at h3
  unfold za5.f
  refine Ev.bind (g:=fun k=>zaX.f k 4609434218613702656 13835058055282163712 128 false false false false false (-1) (-1) 118) h1 ?_
  refine Ev.bind (g:=fun k=>zal.f k (⟨#[40,49,101,43,48,54,45,50,105,41]⟩:ByteArray)) h2 ?_
  refine Ev.bind (g:=fun k=>zal.f k (⟨#[40,49,105,41]⟩:ByteArray)) h3 ?_
  refine Ev.congr (fun k=>?_) (Ev.now _)
  rw[if_pos rfl,if_pos rfl,if_neg (by simp),if_pos (by rw[zbd,L_S]),if_pos (by rw[zbd,L_S]),zbd,L_S]
  rfl
theorem zeU:Ev (fun k=>(za5.f k).bind fun t=>some t) true:=Ev.bind zjq (Ev.now _)
def okP:UInt8→List UInt8→Prop
  |_,[]=>True
  |prev,c::t=>(isSg c=true→isEx prev=true)∧okP c t
def noSg(l:List UInt8):Prop:= ∀c∈l,isSg c=false
theorem noSg.app{a b:List UInt8}(ha:noSg a)(hb:noSg b):noSg (a++b):=fun c h=>(List.mem_append.1 h).elim (ha c) (hb c)
theorem noSg.take{a:List UInt8}(h:noSg a)(n:Nat):noSg (a.take n):=fun c hc=>h c (List.mem_of_mem_take hc)
theorem noSg.drop{a:List UInt8}(h:noSg a)(n:Nat):noSg (a.drop n):=fun c hc=>h c (List.mem_of_mem_drop hc)
theorem zey{l:List UInt8}(h: ∀c∈l,46≤c.toNat):noSg l:=fun c hc=>by
  have h1:=h c hc
  have h2:=zfy c
  cases e:isSg c with
  |false=>rfl
  |true=>exact absurd (h2.1 e) (by omega)
theorem AllD.no{l:List UInt8}(h:AllD l):noSg l:=zey (fun c hc=>by have:=h c hc;omega)
theorem zc1: ∀{l:List UInt8} (prev:UInt8),noSg l→okP prev l
  |[],_,_=>trivial
  |c::t,prev,h=>⟨fun e=>absurd e (by rw[h c (by simp)];decide),zc1 c (fun x hx=>h x (by simp[hx]))⟩
def lastD(prev:UInt8):List UInt8→UInt8
  |[]=>prev
  |c::t=>lastD c t
theorem zcn: ∀(a b:List UInt8) (prev:UInt8),lastD prev (a++b)=lastD (lastD prev a) b
  |[],b,prev=>rfl
  |c::t,b,prev=>zcn t b c
theorem zgc: ∀(a b:List UInt8) (prev:UInt8),okP prev a→okP (lastD prev a) b→okP prev (a++b)
  |[],b,prev,_,h=>h
  |c::t,b,prev,h1,h2=>⟨h1.1,zgc t b c h1.2 h2⟩
theorem zco: ∀{l:List UInt8} (prev:UInt8),l≠[]→lastD prev l∈l
  |[c],_,_=>by simp[lastD]
  |c::d::t,_,_=>by
    have:=zco (l:=d::t) c (by simp)
    exact List.mem_cons_of_mem _ this
structure Good (l : List UInt8) : Prop where
  ok : ∀ prev, isEx prev = false → okP prev l
  ne : l ≠ []
  last : ∀ prev, isEx (lastD prev l) = false
theorem zjr(c:UInt8):isEx c=true↔(c.toNat=101∨c.toNat=69∨c.toNat=112∨c.toNat=80):=by
  have key: ∀i:Fin 256,isEx (UInt8.ofNat i.val)=decide ((UInt8.ofNat i.val).toNat=101∨(UInt8.ofNat i.val).toNat=69∨(UInt8.ofNat i.val).toNat=112∨(UInt8.ofNat i.val).toNat=80):=by decide+kernel
  have h:=key ⟨c.toNat,c.toNat_lt⟩
  rw[UInt8.ofNat_toNat] at h
  rw[h,decide_eq_true_iff]
theorem zdh{c:UInt8}(h:c.toNat≤57):isEx c=false:=by
  cases e:isEx c with
  |false=>rfl
  |true=>have:=(zjr c).1 e;omega
theorem ziR{l:List UInt8}(h:noSg l)(hn:l≠[])(hl: ∀prev,(lastD prev l).toNat≤57):Good l:=⟨fun p _=>zc1 p h,hn,fun p=>zdh (hl p)⟩
theorem zgd{A B:List UInt8}(dot:Bool)(hA:AllD A)(hB:AllD B)(hn:A≠[]):noSg (ptL dot A B)∧ptL dot A B≠[]∧ ∀prev,(lastD prev (ptL dot A B)).toNat≤57:=by
  unfold ptL
  by_cases c:B=[]∧dot=false
  · rw[if_pos c]
    exact⟨hA.no,hn,fun p=>(hA _ (zco p hn)).2⟩
  · rw[if_neg c]
    refine⟨hA.no.app (zey (fun x hx=>?_)),by simp[hn],fun p=>?_⟩
    · rcases List.mem_cons.1 hx with rfl|hx
      · decide
      · have:=hB x hx;omega
    · rw[zcn]
      show(lastD 46 B).toNat≤57
      by_cases cB:B=[]
      · rw[cB];decide
      · exact(hB _ (zco 46 cB)).2
theorem zfz(sign:List UInt8)(e least:Int): ∃(g:UInt8) (X:List UInt8),powL sign e least=sign++(g::X)∧isSg g=true∧AllD X∧X≠[]:=by
  have hX:AllD (zsL (least-((bT 10 e.natAbs).length:Int)).toNat++bT 10 e.natAbs):=(zbw _).append (zfx 63 _)
  have hne:zsL (least-((bT 10 e.natAbs).length:Int)).toNat++bT 10 e.natAbs≠[]:=by
    intro h
    exact zjC 10 63 e.natAbs (List.append_eq_nil_iff.1 h).2
  unfold powL
  by_cases c:e<0
  · exact⟨45,_,by rw[if_pos c];rfl,by decide,hX,hne⟩
  · exact⟨43,_,by rw[if_neg c];rfl,by decide,hX,hne⟩
theorem zdZ{l:List UInt8}(h:noSg l){m:UInt8}(hm:isEx m=true)(A:isSg m=false)(e least:Int):Good (l++powL [m] e least):=by
  obtain⟨g,X,hp,hg,hX,hn⟩:=zfz [m] e least
  rw[hp]
  refine⟨fun p hpp=>zgc _ _ _ (zc1 p h) ⟨fun e=>absurd e (by rw[A];decide),⟨fun _=>hm,zc1 g hX.no⟩⟩,by simp,fun p=>?_⟩
  rw[zcn]
  show isEx (lastD g X)=false
  exact zdh (hX _ (zco g hn)).2
theorem zhq(big:Bool): ∃m,eMark big=[m]∧isEx m=true∧isSg m=false:=by cases big;exact⟨101,rfl,by decide,by decide⟩;exact⟨69,rfl,by decide,by decide⟩
theorem zfA{l:List UInt8}(h:AllD l)(hn:l≠[])(dot big:Bool)(e:Int):Good (sciL dot big l e):=by
  obtain⟨m,hm,h1,h2⟩:=zhq big
  unfold sciL
  rw[hm]
  refine zdZ (zgd dot (h.take 1) (fun c hc=>h c (List.mem_of_mem_drop hc)) ?_).1 h1 h2 e 2
  cases l with
  |nil=>exact absurd rfl hn
  |cons c t=>simp
theorem zdC{A B:List UInt8}(dot:Bool)(hA:AllD A)(hB:AllD B)(hn:A≠[]):Good (ptL dot A B):=by
  obtain⟨h1,h2,h3⟩:=zgd dot hA hB hn
  exact ziR h1 h2 h3
theorem zdu:AllD [48]:=zbw 1
theorem zdJ{l:List UInt8}(h:AllD l)(dot:Bool)(p:Int):Good (aroundL dot l p):=by
  unfold aroundL
  by_cases c:p≤0
  · rw[if_pos c]
    exact zdC dot zdu ((zbw _).append h) (by simp)
  · rw[if_neg c]
    have hf:=zbg l p
    have hF:AllD (fillL l p):=h.append (zbw _)
    refine zdC dot (hF.take _) (fun c hc=>hF c (List.mem_of_mem_drop hc)) (fun e=>?_)
    have:((fillL l p).take p.toNat).length=0:=congrArg List.length e
    rw[List.length_take] at this
    omega
theorem zfB(d:List UInt8×Int)(dot big:Bool)(keep top:Int)(hd:AllD d.1):Good (genL dot big d keep top):=by
  unfold genL
  dsimp only
  have hl:AllD (if d.1=[] then [48] else d.1)∧(if d.1=[] then([48]:List UInt8) else d.1)≠[]:=by
    split
    · exact⟨zdu,by simp⟩
    · rename_i c;exact⟨hd,c⟩
  generalize (if d.1=[] then([48]:List UInt8) else d.1)=l at*
  have hm:AllD (if dot=true then fillL l keep else l)∧(if dot=true then fillL l keep else l)≠[]:=by
    split
    · refine⟨hl.1.append (zbw _),fun e=>hl.2 ?_⟩
      unfold fillL at e
      exact(List.append_eq_nil_iff.1 e).1
    · exact hl
  split
  · exact zfA hm.1 hm.2 dot big _
  · exact zdJ hm.1 dot _
theorem zhX(m:Nat)(e:Int):Good (binL m e):=zdZ (zfx 63 m).no (by decide) (by decide) e 1
theorem zfC(n:Nat):noSg (sixL n):=zey (fun c hc=>by
  unfold sixL at hc
  rcases List.mem_append.1 hc with hc|hc
  · have:=zbw _ c hc;omega
  · have key: ∀k n,∀c∈bF 16 k n,48≤c.toNat:=by
      have one: ∀n,48≤(dch (n%16)).toNat:=by
        intro n
        have A:=Nat.mod_lt n (show 0<16 by decide)
        unfold dch
        split<;>rw[UInt8.toNat_ofNat']<;>omega
      intro k
      induction k with
      |zero=>
        intro n c hc
        rw[bF,List.mem_singleton] at hc
        rw[hc];exact one n
      |succ k ih=>
        intro n c hc
        unfold bF at hc
        split at hc
        · rw[List.mem_singleton] at hc
          rw[hc];exact one n
        · rcases List.mem_append.1 hc with hc|hc
          · exact ih _ c hc
          · rw[List.mem_singleton] at hc
            rw[hc];exact one n
    have:=key 63 n c hc
    omega)
theorem zjF{l:List UInt8}(h:noSg l):noSg (rz l):=by
  obtain⟨k,hk⟩:=zck l
  intro c hc
  exact h c (by rw[hk];exact List.mem_append_left _ hc)
theorem zd0(c:UInt8):isSg (Lib.upperB c)=isSg c∧(isEx c=true→isEx (Lib.upperB c)=true)∧(c.toNat≤57→Lib.upperB c=c):=by
  have key: ∀i:Fin 256,(isSg (Lib.upperB (UInt8.ofNat i.val))==isSg (UInt8.ofNat i.val))&&(!(isEx (UInt8.ofNat i.val))||isEx (Lib.upperB (UInt8.ofNat i.val)))&&(decide (57<(UInt8.ofNat i.val).toNat)||Lib.upperB (UInt8.ofNat i.val)==UInt8.ofNat i.val)=true:=by decide+kernel
  have h:=key ⟨c.toNat,c.toNat_lt⟩
  rw[UInt8.ofNat_toNat] at h
  simp only[Bool.and_eq_true,Bool.or_eq_true,beq_iff_eq,decide_eq_true_eq,Bool.not_eq_true'] at h
  obtain⟨⟨h1,h2⟩,h3⟩:=h
  exact⟨h1,fun e=>h2.elim (fun f=>by rw[e] at f;cases f) id,fun e=>h3.elim (fun f=>by omega) id⟩
theorem zhr: ∀(l:List UInt8) (p q:UInt8),(isEx p=true→isEx q=true)→okP p l→okP q (Lib.toUpperA l)
  |[],_,_,_,_=>trivial
  |c::t,p,q,hpq,h=>⟨fun e=>hpq (h.1 (by rw[←(zd0 c).1];exact e)),zhr t c (Lib.upperB c) (zd0 c).2.1 h.2⟩
theorem zfD: ∀(l:List UInt8) (p:UInt8),lastD (Lib.upperB p) (Lib.toUpperA l)=Lib.upperB (lastD p l)
  |[],_=>rfl
  |c::t,p=>zfD t c
theorem zcU(dot up:Bool){lead ds:List UInt8}(hl:AllD lead)(hd:noSg ds)(x:Int):Good (hexEnd dot up lead ds x):=by
  have hp:noSg ([48,120]++ptL dot lead ds):=by
    refine noSg.app (by unfold noSg;decide) ?_
    unfold ptL
    split
    · exact hl.no
    · refine hl.no.app (fun c hc=>?_)
      rcases List.mem_cons.1 hc with rfl|hc
      · decide
      · exact hd c hc
  obtain⟨g,X,hpw,hg,hX,hn⟩:=zfz [112] x 2
  have hG:=zdZ hp (m:=112) (by decide) (by decide) x 2
  have e:[48,120]++(ptL dot lead ds++powL [112] x 2)=([48,120]++ptL dot lead ds)++powL [112] x 2:=by simp
  unfold hexEnd
  cases up with
  |false=>
    rw[if_neg (by simp),e]
    exact hG
  |true=>
    rw[if_pos rfl,e]
    refine⟨fun p A=>zhr _ 48 p (fun h=>absurd h (by decide)) (hG.ok 48 (by decide)),?_,fun p=>?_⟩
    · intro h
      have:=congrArg List.length h
      unfold Lib.toUpperA at this
      rw[List.length_map] at this
      simp at this
    · have hlast: ∀q:UInt8,(lastD q (([48,120]++ptL dot lead ds)++powL [112] x 2)).toNat≤57:=by
        intro q
        rw[hpw,zcn]
        show(lastD g X).toNat≤57
        exact(hX _ (zco g hn)).2
      have hne:(([48,120]++ptL dot lead ds)++powL [112] x 2)≠[]:=hG.ne
      have h2: ∀l:List UInt8,l≠[]→(∀q,(lastD q l).toNat≤57)→isEx (lastD p (Lib.toUpperA l))=false:=by
        intro l hl hq
        cases l with
        |nil=>exact absurd rfl hl
        |cons c t=>
          show isEx (lastD (Lib.upperB c) (Lib.toUpperA t))=false
          rw[zfD]
          have h3:(lastD c t).toNat≤57:=hq 0
          rw[(zd0 _).2.2 h3]
          exact zdh h3
      exact h2 _ hne hlast
theorem zhY(m:Nat)(e prec:Int)(dot up:Bool):Good (hexL m e prec dot up):=by
  have tail: ∀(lead:List UInt8) (part:Nat) (x:Int),AllD lead→Good (hexTail dot up lead part x prec):=by
    intro lead part x hl
    unfold hexTail
    split
    · exact zcU dot up hl (zjF (zfC part)) x
    · split
      · exact zcU dot up hl ((zfC part).app (zbw _).no) x
      · unfold hexMid
        dsimp only
        refine zcU dot up hl ?_ _
        split
        · exact fun c hc=>by cases hc
        · exact(zfC _).take _
  unfold hexL
  split
  · exact tail [48] 0 0 zdu
  · exact tail [49] _ _ (by unfold AllD;decide)
theorem zhs(wide:Bool){p:Nat}(hp:p<ii wide){m:Nat}(hm:m<18446744073709551616){e:Int}(h: -1200≤e∧e≤1200){prec:Int}(hq: -1≤prec∧prec≤1000)(v:Int)(sharp:Bool):Good (restL wide p m e prec v sharp):=by
  have hn:=zce hm h
  have hs:=zfu hq
  unfold restL
  by_cases c1:codeV v=1
  · rw[if_pos c1]
    unfold scaledL
    exact zfA ((zbI hn.form _).1.append (zbw _)) (zex (by omega)) _ _ _
  · rw[if_neg c1]
    by_cases c2:codeV v=2
    · rw[if_pos c2]
      unfold fixedL
      split
      · exact zdC _ zdu (zbw _) (by simp)
      · split
        · exact zdC _ zdu (((zbw _).append (zbI hn.form _).1).append (zbw _)) (by simp)
        · exact zdJ ((zbI hn.form _).1.append (zbw _)) _ _
    · rw[if_neg c2]
      by_cases c3:codeV v=3
      · rw[if_pos c3]
        unfold genOf
        split
        · exact zfB _ _ _ _ _ (zdt wide hp).1.1
        · exact zfB _ _ _ _ _ (zbI hn.form _).1
      · rw[if_neg c3]
        by_cases c4:codeV v=4
        · rw[if_pos c4]
          exact zhX m e
        · rw[if_neg c4]
          exact zhY m e prec _ _
theorem zek(wide:Bool)(a:Nat)(plus minus sharp space zero:Bool)(prec v:Int): ∃(kind:Int) (r:List UInt8),textL wide a plus minus sharp space zero (-1) prec v=signL (a / tt wide%2==1) kind plus space++r∧Good r∧
    ∀(plus' minus' sharp' space' zero':Bool),sharp'=sharp→textL wide a plus' minus' sharp' space' zero' (-1) prec v=signL (a / tt wide%2==1) kind plus' space'++r:=by
  by_cases c1:bareN wide a<ii wide
  · have hb:=fEl wide (Nat.le_of_lt c1)
    have A:=zcN wide (Nat.le_of_lt c1)
    have hr:=zhs wide c1 (m:=fM (ff wide) (bareN wide a)) (by omega) (e:=(fE (ff wide) (bareN wide a):Int)-(ll wide:Int)) (by omega) (zdW prec) v sharp
    have ht: ∀(plus' minus' sharp' space' zero':Bool),sharp'=sharp→textL wide a plus' minus' sharp' space' zero' (-1) prec v=signL (a / tt wide%2==1) 0 plus' space'++restL wide (bareN wide a) (fM (ff wide) (bareN wide a)) ((fE (ff wide) (bareN wide a):Int)-(ll wide:Int)) (clamp prec) v sharp:=by
      intro plus' minus' sharp' space' zero' hsh
      unfold textL
      rw[if_pos c1,zdg _ _ _ _ (by decide),hsh]
    exact⟨0,_,ht plus minus sharp space zero rfl,hr,ht⟩
  · by_cases c2:bareN wide a=ii wide
    · have ht: ∀(plus' minus' sharp' space' zero':Bool),sharp'=sharp→textL wide a plus' minus' sharp' space' zero' (-1) prec v=signL (a / tt wide%2==1) 1 plus' space'++[73,110,102]:=by
        intro plus' minus' sharp' space' zero' _
        unfold textL
        rw[if_neg c1,if_pos c2,zdg _ _ _ _ (by decide)]
      exact⟨1,_,ht plus minus sharp space zero rfl,⟨fun p _=>zc1 p (by unfold noSg;decide),by simp,fun p=>(by decide:isEx 102=false)⟩,ht⟩
    · have ht: ∀(plus' minus' sharp' space' zero':Bool),sharp'=sharp→textL wide a plus' minus' sharp' space' zero' (-1) prec v=signL (a / tt wide%2==1) 2 plus' space'++[78,97,78]:=by
        intro plus' minus' sharp' space' zero' _
        unfold textL
        rw[if_neg c1,if_neg c2,zdg _ _ _ _ (by decide)]
      exact⟨2,_,ht plus minus sharp space zero rfl,⟨fun p _=>zc1 p (by unfold noSg;decide),by simp,fun p=>(by decide:isEx 78=false)⟩,ht⟩
theorem zht(neg:Bool)(kind:Int)(space:Bool): ∃g,signL neg kind true space=[g]∧isSg g=true:=by
  unfold signL
  split
  · exact⟨45,rfl,by decide⟩
  · exact⟨43,rfl,by decide⟩
theorem zge{l:List UInt8}{n:Nat}(h0:0<n)(hs:isSg (l.getD n 0)=true)(he:isEx (l.getD (n-1) 0)=false): ∀i:Nat,n≤i→(∀j,n≤j→j<i→isSg (l.getD (j+1) 0)=true→isEx (l.getD j 0)=true)→cutN l i=n
  |0,h,_=>by omega
  |i+1,h,hj=>by
    have hcut:cutN l (i+1)=if isSg (l.getD (i+1) 0)=true∧isEx (l.getD i 0)=false then i+1 else cutN l i:=rfl
    by_cases c:n=i+1
    · subst c
      rw[hcut,if_pos ⟨hs,he⟩]
    · have hh: ¬(isSg (l.getD (i+1) 0)=true∧isEx (l.getD i 0)=false):=fun e=>by
        have:=hj i (by omega) (by omega) e.1
        rw[e.2] at this
        exact absurd this (by decide)
      rw[hcut,if_neg hh]
      exact zge h0 hs he i (by omega) (fun j h1 h2=>hj j h1 (by omega))
theorem zgf: ∀(l:List UInt8) (prev:UInt8),okP prev l→ ∀j,j<l.length→isSg (l.getD j 0)=true→isEx ((prev::l).getD j 0)=true
  |[],_,_,_,h,_=>absurd h (by simp)
  |c::t,prev,h,0,_,hs=>h.1 hs
  |c::t,prev,h,j+1,hl,hs=>zgf t c h.2 j (by simpa using hl) hs
theorem zeV: ∀(l:List UInt8) (prev:UInt8) (X:List UInt8),l≠[]→(l++X).getD (l.length-1) 0=lastD prev l
  |[c],_,_,_=>rfl
  |c::d::t,prev,X,_=>zeV (d::t) c X (by simp)
theorem zd1(A X:List UInt8)(j:Nat):(A++X).getD (A.length+j) 0=X.getD j 0:=by
  rw[List.getD_eq_getElem?_getD,List.getD_eq_getElem?_getD,List.getElem?_append_right (by omega),Nat.add_sub_cancel_left]
theorem zhZ{A R:List UInt8}{g:UInt8}(hA:A≠[])(hl: ∀p,isEx (lastD p A)=false)(hg:isSg g=true)(hR:okP g R):cutN (A++g::R) ((A++g::R).length-1)=A.length:=by
  have hp:0<A.length:=List.length_pos_iff.2 hA
  refine zge hp ?_ ?_ _ (by simp) (fun j h1 h2=>?_)
  · have:=zd1 A (g::R) 0
    rw[Nat.add_zero] at this
    rw[this]
    exact hg
  · rw[zeV A 0 _ hA]
    exact hl 0
  · obtain⟨d,rfl⟩: ∃d,j=A.length+d:=⟨j-A.length,by omega⟩
    rw[Nat.add_assoc,zd1,zd1]
    rw[List.length_append,List.length_cons] at h2
    exact fun hs=>zgf R g hR d (by omega) hs
theorem zh0(p X:List UInt8):Lib.hasPrefix (p++X) p=true∧Lib.trimPrefix (p++X) p=X:=by
  have h:Lib.hasPrefix (p++X) p=true:=List.isPrefixOf_iff_prefix.2 (List.prefix_append p X)
  refine⟨h,?_⟩
  unfold Lib.trimPrefix
  rw[if_pos h,List.drop_left]
theorem zh1(X p:List UInt8):Lib.hasSuffix (X++p) p=true∧Lib.trimSuffix (X++p) p=X:=by
  have h:Lib.hasSuffix (X++p) p=true:=List.isSuffixOf_iff_suffix.2 (List.suffix_append X p)
  refine⟨h,?_⟩
  unfold Lib.trimSuffix
  rw[if_pos h,List.length_append,Nat.add_sub_cancel,List.take_left]
theorem zgz{A R:List UInt8}{g:UInt8}(hA:A≠[])(hl: ∀p,isEx (lastD p A)=false)(hg:isSg g=true)(hR:okP g R):splitS ([40]++(A++((g::R)++[105,41])))=(S A,S (g::R),true):=by
  have h1:=zh0 [40] (A++((g::R)++[105,41]))
  have h2:=zh1 (A++(g::R)) [105,41]
  rw[List.append_assoc] at h2
  unfold splitS
  rw[h1.1,h1.2,h2.1,h2.2,if_pos (by decide),zhZ hA hl hg hR]
  unfold outL
  have hp:0<A.length:=List.length_pos_iff.2 hA
  rw[if_neg (by omega),List.take_left,List.drop_left]
theorem zfO{g:UInt8}(h:isSg g=true):isEx g=false:=by
  have:=(zfy g).1 h
  exact zdh (by omega)
theorem zgA(wide:Bool)(a b:Nat)(p m s sp z:Bool)(prec v:Int):
    splitS ([40]++(textL wide a p m s sp z (-1) prec v++(textL wide b true m s sp z (-1) prec v++[105,41])))=(S (textL wide a p m s sp z (-1) prec v),S (textL wide b true m s sp z (-1) prec v),true):=by
  obtain⟨k1,r1,e1,G1,_⟩:=zek wide a p m s sp z prec v
  obtain⟨k2,r2,e2,G2,_⟩:=zek wide b true m s sp z prec v
  obtain⟨g,eg,hg⟩:=zht (b / tt wide%2==1) k2 sp
  rw[e1,e2,eg]
  refine zgz (A:=signL (a / tt wide%2==1) k1 p sp++r1) (R:=r2) ?_ (fun q=>?_) hg (G2.ok g (zfO hg))
  · intro e
    exact G1.ne (List.append_eq_nil_iff.1 e).2
  · rw[zcn]
    exact G1.last _
theorem ziS(wide:Bool):wrap64 (Int.tdiv (szC wide) 2)=szB wide:=by cases wide<;>decide+kernel
theorem zh2(wide:Bool)(a b:Nat)(p m s sp z:Bool)(wid prec v:Int)(h:codeV v=0):cplxS wide a b p m s sp z wid prec v=(⟨#[]⟩,false):=by unfold cplxS;rw[if_pos h]
theorem zgB(wide:Bool)(a b:Nat)(p m s sp z:Bool)(wid prec v:Int)(h:codeV v≠0):cplxS wide a b p m s sp z wid prec v=(S ([40]++(textL wide a p m s sp z wid prec v++(textL wide b true m s sp z wid prec v++[105,41]))),true):=by unfold cplxS;rw[if_neg h]
end Go.Proofs.YtecpgdfnamkfdaaGreatDoor.Pure
end
section
namespace Go.Proofs.YtecpgdfnamkfdaaGreatDoor.Fn
open Go.RowKit Go.Proofs.YtecpgdfnamkfdaaGreatDoorW.PrintWords Go.Proofs.YtecpgdfnamkfdaaGreatDoorW.PrintLast Go.Proofs.YtecpgdfnamkfdaaGreatDoorW.PrintMore
set_option linter.unusedVariables false
set_option linter.unusedSimpArgs false
set_option maxHeartbeats 8000000
set_option maxRecDepth 100000
section
attribute [local go_sem] fnW_0 fnW_1 fnW_2 fnW_3 fnW_4 fnW_5 fnW_guard fnW_eql zaD zaE zaI zaJ
mutual
def platenlaw07_CplxBack.j0:Nat→Int→Int→Int→Bool→Bool→Bool→Bool→Bool→Int→Int→Int→Option (Bool)
 |0,_,_,_,_,_,_,_,_,_,_,_=>none
 |k+1,x7,X,Y,Z,E,I,J,K,M,O,U=>(zaX.f k X Y x7 Z E I J K M O U).bind fun A=>((zae.f k X (wrap64 (Int.tdiv x7 2)) Z E I J K M O U).bind fun B=>((zae.f k Y (wrap64 (Int.tdiv x7 2)) true E I J K M O U).bind fun D=>(if A.2=true then(if B.2=true then(platenlaw07_CplxBack.j1 k A.1 A.2 B.1 B.2 D.1 D.2 (!D.2)) else(platenlaw07_CplxBack.j1 k A.1 A.2 B.1 B.2 D.1 D.2 true)) else(platenlaw07_CplxBack.j1 k A.1 A.2 B.1 B.2 D.1 D.2 true))))
def platenlaw07_CplxBack.j1:Nat→ByteArray→Bool→ByteArray→Bool→ByteArray→Bool→Bool→Option (Bool)
 |0,_,_,_,_,_,_,_=>none
 |k+1,x8,x9,B,J,D,K,M=>if M=true then(if(x9==J)=true then(if(J==K)=true then(if x8.toList=([]:List UInt8) then((za5.f k).bind fun E=>(some E)) else(some false)) else(some false)) else(some false)) else((zal.f k x8).bind fun A=>(if A.2.2=true then(if B.toList=A.1.toList then(if D.toList=A.2.1.toList then(if 1+B.size≤9223372036854775807 then(if((⟨#[40]⟩:ByteArray)++B).size+D.size≤9223372036854775807 then(if(((⟨#[40]⟩:ByteArray)++B)++D).size+2≤9223372036854775807 then(if x8.toList=((((⟨#[40]⟩:ByteArray)++B)++D)++(⟨#[105,41]⟩:ByteArray)).toList then((za5.f k).bind fun I=>(some I)) else(some false)) else(none)) else(none)) else(none)) else(some false)) else(some false)) else(some false)))
end
def platenlaw07_CplxBack.f(k:Nat)(A:Int)(B:Int)(a1:Bool)(D:Bool)(E:Bool)(I:Bool)(J:Bool)(K:Bool)(U:Int)(M:Int)(O:Int):Option (Bool):=if a1=true then(platenlaw07_CplxBack.j0 k 128 A B D E I J K (-1) M O) else(platenlaw07_CplxBack.j0 k 64 A B D E I J K (-1) M O)
theorem platenlaw07_CplxBack.calls(k:Nat)(K:Int)(M:Int)(a1:Bool)(ah:Bool)(U:Bool)(X:Bool)(Y:Bool)(Z:Bool)(aN:Int)(aa:Int)(ab:Int)(r:Bool)(w:World)(h:platenlaw07_CplxBack.f k K M a1 ah U X Y Z aN aa ab=some r):
  Calls Tryz.prog 16 #[.agg #[.int .u64 K,.int .u64 M],.bool a1,.agg #[.bool ah,.bool U,.bool X,.bool Y,.bool Z,.int .i64 aN,.int .i64 aa,.int .i32 ab]] w fun e w'=>e= .returned (.bool r)∧Below w.heap.size w w':=by
 have cV:=Tryz.underlying57
 have cW:=Tryz.underlying26
 have HB:=zaa.mk (Below.refl w.heap.size w)
 have H:(if a1=true then(platenlaw07_CplxBack.j0 k 128 K M ah U X Y Z (-1) aa ab) else(platenlaw07_CplxBack.j0 k 64 K M ah U X Y Z (-1) aa ab))=some r:=h
 clear h
 have b5:=zaa.mk H
 clear H
 go_enter Tryz.func16,Tryz.ntmps16
 go_upto_if 18 with(first|((with_reducible refine zah (N:=3) rfl ?_);refine zag rfl (N:=3) rfl (cs:=#[.int .u64 K,.int .u64 M]) (t:=57) gz ?_;intro O hg w5 hbox hb;have cv:=gN bz hg;have I:=zaa.mk hbox;replace HB:=bN bz hb;clear hb hbox hg)|((with_reducible refine zah (N:=5) rfl ?_);refine zag rfl (N:=5) rfl (cs:=#[.bool ah,.bool U,.bool X,.bool Y,.bool Z,.int .i64 aN,.int .i64 aa,.int .i32 ab]) (t:=26) gz ?_;intro ag hg w6 hbox hb;have cw:=gN bz hg;have ai:=lN (g:=O) (cs:=#[.int .u64 K,.int .u64 M]) hg bk;have aj:=rN (g:=O) (cs:=#[.int .u64 K,.int .u64 M]) hg bk;replace I:=kN (g:=O) (cs:=#[.int .u64 K,.int .u64 M]) hb bk;have J:=zaa.mk hbox;replace HB:=bN bz hb;clear hb hbox hg;have cX:=aj.out;have cY:=ai.out;obtain⟨ax,ay,az,aA,aB,aC,aD,aE,aF,aG,aH,aI,aJ,aK,aL,aM⟩:=cz8 J))
 (try simp only[Act.put,List.setIfInBounds_toArray,List.set_cons_zero,List.set_cons_succ])
 go_cut [7] (fun v7 wc=> ∃(kq:Nat) (ao:Int),v7= .int .i64 ao∧zaa (platenlaw07_CplxBack.j0 kq ao K M ah U X Y Z (-1) aa ab=some r)∧zaa (kq≤k)∧zaa (wc.heap[O]? =some (.cells #[.int .u64 K,.int .u64 M] 57 (0,0)))∧zaa (wc.heap[ag]? =some (.cells #[.bool ah,.bool U,.bool X,.bool Y,.bool Z,.int .i64 (-1),.int .i64 aa,.int .i32 ab] 26 (0,0)))∧zaa (Below w.heap.size w wc))
 case first=>
  have H:=b5.out
  clear b5
  by_cases c9:a1=true
  ·subst c9
   replace H:=hT H
   have H':=zaa.mk H
   clear H
   go_wp2
   go_meet
   case rel=>exact⟨_,(128),rz,H',⟨by first|omega|exact Nat.le_refl _⟩,⟨bk⟩,⟨bk⟩,⟨bz⟩⟩
  replace c9:=Bool.eq_false_iff.mpr c9
  subst c9
  replace H:=hF H
  have H':=zaa.mk H
  clear H
  go_wp2
  go_meet
  case rel=>exact⟨_,(64),rz,H',⟨by first|omega|exact Nat.le_refl _⟩,⟨bk⟩,⟨bk⟩,⟨bz⟩⟩
 case rest=>
  clear b5
  try clear ax ay az aA aB aC aD aE aF aG aH aI aJ aK aL aM
  obtain⟨kq,ao,rfl,HA,b6,I,J,HB⟩:=hcut
  cases kq with
  |zero=>exact absurd HA.out (by simp[platenlaw07_CplxBack.j0])
  |succ b0=>
   have H:=HA.out
   clear HA
   simp only[platenlaw07_CplxBack.j0] at H
   replace H:=bs H
   obtain⟨⟨A,ac⟩,cx,H⟩:=H
   dsimp only at H
   replace H:=bs H
   obtain⟨⟨D,B⟩,cy,H⟩:=H
   dsimp only at H
   replace H:=bs H
   obtain⟨⟨E,ad⟩,cz,H⟩:=H
   dsimp only at H
   have aO:=zaa.mk H
   clear H
   have cA:=ai.out
   have cB:=aj.out
   obtain⟨aP,aQ,aR,aS⟩:=cz2 I
   obtain⟨aT,aU,aV,aW,aX,aY,aZ,a2,a3,a4,a5,a6,a7,a8,a9,ba⟩:=cz8 J
   go_upto_region 9 with(first|((with_reducible refine zad (f:=36) rfl ?_);refine gB Tryz.func36 (zaX.calls b0 K M ao ah U X Y Z (-1) aa ab A ac _ cx.out) ?_;intro c5 hb;replace I:=kN (g:=O) (cs:=#[.int .u64 K,.int .u64 M]) hb bk;replace J:=kN (g:=ag) (cs:=#[.bool ah,.bool U,.bool X,.bool Y,.bool Z,.int .i64 (-1),.int .i64 aa,.int .i32 ab]) hb bk;replace HB:=bN bz hb;clear hb;obtain⟨bb,bd,be,bf⟩:=cz2 I;obtain⟨bg,bh,bi,bj,bl,bm,bn,bo,bp,bq,br,bu,bv,bw,bA,bB⟩:=cz8 J)|((with_reducible refine zad (f:=25) rfl ?_);refine gB Tryz.func25 (zae.calls b0 K (wrap64 (Int.tdiv ao 2)) ah U X Y Z (-1) aa ab D B _ cy.out) ?_;intro c6 hb;replace I:=kN (g:=O) (cs:=#[.int .u64 K,.int .u64 M]) hb bk;replace J:=kN (g:=ag) (cs:=#[.bool ah,.bool U,.bool X,.bool Y,.bool Z,.int .i64 (-1),.int .i64 aa,.int .i32 ab]) hb bk;replace HB:=bN bz hb;clear hb;obtain⟨bC,bD,bE,bG,bH,bI,bJ,bK,bL,bM,bO,bP,bQ,bR,bS,bU⟩:=cz8 J;obtain⟨bV,bW,bX,bY⟩:=cz2 I)|((with_reducible refine zad (f:=25) rfl ?_);refine gB Tryz.func25 (zae.calls b0 M (wrap64 (Int.tdiv ao 2)) true U X Y Z (-1) aa ab E ad _ cz.out) ?_;intro c7 hb;replace I:=kN (g:=O) (cs:=#[.int .u64 K,.int .u64 M]) hb bk;replace J:=kN (g:=ag) (cs:=#[.bool true,.bool U,.bool X,.bool Y,.bool Z,.int .i64 (-1),.int .i64 aa,.int .i32 ab]) hb bk;replace HB:=bN bz hb;clear hb))
   (try simp only[Act.put,List.setIfInBounds_toArray,List.set_cons_zero,List.set_cons_succ])
   go_cut [57] (fun cC wc=> ∃(kq:Nat) (ak:Bool),cC= .bool ak∧zaa (platenlaw07_CplxBack.j1 kq A ac D B E ad ak=some r)∧zaa (kq≤b0)∧zaa (wc.heap[O]? =some (.cells #[.int .u64 K,.int .u64 M] 57 (0,0)))∧zaa (wc.heap[ag]? =some (.cells #[.bool true,.bool U,.bool X,.bool Y,.bool Z,.int .i64 (-1),.int .i64 aa,.int .i32 ab] 26 (0,0)))∧zaa (Below w.heap.size w wc))
   case first=>
    have H:=aO.out
    clear aO
    by_cases b1:ac=true
    ·subst b1
     replace H:=hT H
     by_cases b2:B=true
     ·subst b2
      replace H:=hT H
      have H':=zaa.mk H
      clear H
      go_wp2
      go_meet
      case rel=>exact⟨_,(!ad),rz,H',⟨by have:=b6.out;first|omega|exact Nat.le_refl _⟩,⟨bk⟩,⟨bk⟩,⟨bz⟩⟩
     replace b2:=Bool.eq_false_iff.mpr b2
     subst b2
     replace H:=hF H
     have H':=zaa.mk H
     clear H
     go_wp2
     go_meet
     case rel=>exact⟨_,(true),rz,H',⟨by have:=b6.out;first|omega|exact Nat.le_refl _⟩,⟨bk⟩,⟨bk⟩,⟨bz⟩⟩
    replace b1:=Bool.eq_false_iff.mpr b1
    subst b1
    replace H:=hF H
    have H':=zaa.mk H
    clear H
    go_wp2
    go_meet
    case rel=>exact⟨_,(true),rz,H',⟨by have:=b6.out;first|omega|exact Nat.le_refl _⟩,⟨bk⟩,⟨bk⟩,⟨bz⟩⟩
   case rest=>
    clear aO
    try clear aP aQ aR aS
    try clear aT aU aV aW aX aY aZ a2 a3 a4 a5 a6 a7 a8 a9 ba
    try clear bb bd be bf
    try clear bg bh bi bj bl bm bn bo bp bq br bu bv bw bA bB
    try clear bC bD bE bG bH bI bJ bK bL bM bO bP bQ bR bS bU
    try clear bV bW bX bY
    try clear ax ay az aA aB aC aD aE aF aG aH aI aJ aK aL aM
    obtain⟨kq,ak,rfl,HA,cZ,I,J,HB⟩:=hcut
    cases kq with
    |zero=>exact absurd HA.out (by simp[platenlaw07_CplxBack.j1])
    |succ al=>
     have H:=HA.out
     clear HA
     simp only[platenlaw07_CplxBack.j1] at H
     by_cases b3:ak=true
     ·subst b3
      replace H:=hT H
      by_cases am:(ac==B)=true
      case neg=>
       replace H:=hN H am
       have b7:(ac==B)=false:=by simpa using am
       (try(have b8:decide (ac=B)=false:=by simpa using am))
       (try(have ca:(ac==B)=false:=by simpa using am))
       (try(have cH: ¬(ac=B):=by simpa using am))
       clear am
       obtain rfl:=Option.some.inj H
       go_wp2
       go_ret
       exact⟨ez,bz⟩
      replace H:=hE H am
      have b7:(ac==B)=true:=am
      (try(have b8:decide (ac=B)=true:=by simpa using am))
      (try(have ca:(ac==B)=true:=by simpa using am))
      clear am
      by_cases an:(B==ad)=true
      case neg=>
       replace H:=hN H an
       have cb:(B==ad)=false:=by simpa using an
       (try(have cc:decide (B=ad)=false:=by simpa using an))
       (try(have cd:(B==ad)=false:=by simpa using an))
       (try(have cG: ¬(B=ad):=by simpa using an))
       clear an
       obtain rfl:=Option.some.inj H
       go_wp2
       go_ret
       exact⟨ez,bz⟩
      replace H:=hE H an
      have cb:(B==ad)=true:=an
      (try(have cc:decide (B=ad)=true:=by simpa using an))
      (try(have cd:(B==ad)=true:=by simpa using an))
      clear an
      by_cases ap:A.toList=([]:List UInt8)
      ·replace H:=hE H ap
       have ar:(A.toList==([]:List UInt8))=true:=beq_iff_eq.mpr ap
       have ce:(A.toList !=([]:List UInt8))=false:=bne_eq_false_iff_eq.mpr ap
       have cf:A.toList.isEmpty=true:=by simpa using ar
       clear ap
       replace H:=bs H
       obtain⟨cg,cD,H⟩:=H
       obtain rfl:=Option.some.inj H
       go_wp2_with (first|(go_at_call 38;(with_reducible refine(za5.calls al cg _ cD.out).mono ?_);rintro e c8 ⟨rfl,hb⟩;replace I:=kN (g:=O) (cs:=#[.int .u64 K,.int .u64 M]) hb bk;replace J:=kN (g:=ag) (cs:=#[.bool true,.bool U,.bool X,.bool Y,.bool Z,.int .i64 (-1),.int .i64 aa,.int .i32 ab]) hb bk;replace HB:=bN bz hb;(try clear hb);(try clear cF);(try clear hk);(try clear hi)))
       go_ret
       exact⟨ez,bz⟩
      replace H:=hN H ap
      have ar:(A.toList==([]:List UInt8))=false:=beq_eq_false_iff_ne.mpr ap
      have ce:(A.toList !=([]:List UInt8))=true:=bne_iff_ne.mpr ap
      have cf:A.toList.isEmpty=false:=by simpa using ar
      obtain rfl:=Option.some.inj H
      go_wp2
      go_ret
      exact⟨ez,bz⟩
     replace b3:=Bool.eq_false_iff.mpr b3
     subst b3
     replace H:=hF H
     replace H:=bs H
     obtain⟨⟨ae,af,ci⟩,bZ,H⟩:=H
     dsimp only at H
     by_cases b4:ci=true
     case neg=>
      replace b4:=Bool.eq_false_iff.mpr b4
      subst b4
      replace H:=hF H
      obtain rfl:=Option.some.inj H
      go_wp2_with (first|((with_reducible refine zad (f:=39) rfl ?_);refine za3 (some 75) rfl rfl Tryz.func39 (by kernel_rfl) rfl #[.string A] rfl lz ?_;(with_reducible refine(zal.calls al A ae af false _ bZ.out).mono ?_);rintro e w' ⟨rfl,⟨nd,rfl⟩⟩;refine⟨_,rfl,?_⟩))
      go_ret
      exact⟨ez,bz⟩
     subst b4
     replace H:=hT H
     by_cases au:D.toList=ae.toList
     case neg=>
      replace H:=hN H au
      have cj:(D.toList==ae.toList)=false:=beq_eq_false_iff_ne.mpr au
      have ck:(D.toList !=ae.toList)=true:=bne_iff_ne.mpr au
      obtain rfl:=Option.some.inj H
      go_wp2_with (first|((with_reducible refine zad (f:=39) rfl ?_);refine za3 (some 75) rfl rfl Tryz.func39 (by kernel_rfl) rfl #[.string A] rfl lz ?_;(with_reducible refine(zal.calls al A ae af true _ bZ.out).mono ?_);rintro e w' ⟨rfl,⟨nd,rfl⟩⟩;refine⟨_,rfl,?_⟩))
      go_ret
      exact⟨ez,bz⟩
     replace H:=hE H au
     have cj:(D.toList==ae.toList)=true:=beq_iff_eq.mpr au
     have ck:(D.toList !=ae.toList)=false:=bne_eq_false_iff_eq.mpr au
     clear au
     by_cases av:E.toList=af.toList
     case neg=>
      replace H:=hN H av
      have cm:(E.toList==af.toList)=false:=beq_eq_false_iff_ne.mpr av
      have cn:(E.toList !=af.toList)=true:=bne_iff_ne.mpr av
      obtain rfl:=Option.some.inj H
      go_wp2_with (first|((with_reducible refine zad (f:=39) rfl ?_);refine za3 (some 75) rfl rfl Tryz.func39 (by kernel_rfl) rfl #[.string A] rfl lz ?_;(with_reducible refine(zal.calls al A ae af true _ bZ.out).mono ?_);rintro e w' ⟨rfl,⟨nd,rfl⟩⟩;refine⟨_,rfl,?_⟩))
      go_ret
      exact⟨ez,bz⟩
     replace H:=hE H av
     have cm:(E.toList==af.toList)=true:=beq_iff_eq.mpr av
     have cn:(E.toList !=af.toList)=false:=bne_eq_false_iff_eq.mpr av
     clear av
     obtain⟨co,H⟩:=hG H
     have cI:=eq_true co
     have cJ:=decide_eq_true co
     have cK:=eq_false (Nat.not_lt.2 co)
     obtain⟨cp,H⟩:=hG H
     have cL:=eq_true cp
     have cM:=decide_eq_true cp
     have cN:=eq_false (Nat.not_lt.2 cp)
     have cO:(9223372036854775807<1+D.size+E.size)=False:=eq_false (by have h_:((⟨#[40]⟩:ByteArray)++D).size+E.size≤9223372036854775807:=of_decide_eq_true (by assumption);simp only[ByteArray.size_append,ByteArray.size_extract,Nat.sub_zero] at h_;first|exact Nat.not_lt.2 h_|(simp at h_;omega)|omega)
     obtain⟨cq,H⟩:=hG H
     have cP:=eq_true cq
     have cQ:=decide_eq_true cq
     have cR:=eq_false (Nat.not_lt.2 cq)
     have cS:(9223372036854775807<1+D.size+E.size+2)=False:=eq_false (by have h_:(((⟨#[40]⟩:ByteArray)++D)++E).size+2≤9223372036854775807:=of_decide_eq_true (by assumption);simp only[ByteArray.size_append,ByteArray.size_extract,Nat.sub_zero] at h_;first|exact Nat.not_lt.2 h_|(simp at h_;omega)|omega)
     by_cases aw:A.toList=((((⟨#[40]⟩:ByteArray)++D)++E)++(⟨#[105,41]⟩:ByteArray)).toList
     ·replace H:=hE H aw
      have cr:(A.toList==((((⟨#[40]⟩:ByteArray)++D)++E)++(⟨#[105,41]⟩:ByteArray)).toList)=true:=beq_iff_eq.mpr aw
      have ct:(A.toList !=((((⟨#[40]⟩:ByteArray)++D)++E)++(⟨#[105,41]⟩:ByteArray)).toList)=false:=bne_eq_false_iff_eq.mpr aw
      clear aw
      replace H:=bs H
      obtain⟨cu,cT,H⟩:=H
      obtain rfl:=Option.some.inj H
      go_wp2_with (first|((with_reducible refine zad (f:=39) rfl ?_);refine za3 (some 75) rfl rfl Tryz.func39 (by kernel_rfl) rfl #[.string A] rfl lz ?_;(with_reducible refine(zal.calls al A ae af true _ bZ.out).mono ?_);rintro e w' ⟨rfl,⟨nd,rfl⟩⟩;refine⟨_,rfl,?_⟩)|(go_at_call 38;(with_reducible refine(za5.calls al cu _ cT.out).mono ?_);rintro e da ⟨rfl,hb⟩;replace I:=kN (g:=O) (cs:=#[.int .u64 K,.int .u64 M]) hb bk;replace J:=kN (g:=ag) (cs:=#[.bool true,.bool U,.bool X,.bool Y,.bool Z,.int .i64 (-1),.int .i64 aa,.int .i32 ab]) hb bk;replace HB:=bN bz hb;(try clear hb);(try clear cF);(try clear hk);(try clear hi)))
      go_ret
      exact⟨ez,bz⟩
     replace H:=hN H aw
     have cr:(A.toList==((((⟨#[40]⟩:ByteArray)++D)++E)++(⟨#[105,41]⟩:ByteArray)).toList)=false:=beq_eq_false_iff_ne.mpr aw
     have ct:(A.toList !=((((⟨#[40]⟩:ByteArray)++D)++E)++(⟨#[105,41]⟩:ByteArray)).toList)=true:=bne_iff_ne.mpr aw
     obtain rfl:=Option.some.inj H
     go_wp2_with (first|((with_reducible refine zad (f:=39) rfl ?_);refine za3 (some 75) rfl rfl Tryz.func39 (by kernel_rfl) rfl #[.string A] rfl lz ?_;(with_reducible refine(zal.calls al A ae af true _ bZ.out).mono ?_);rintro e w' ⟨rfl,⟨nd,rfl⟩⟩;refine⟨_,rfl,?_⟩))
     go_ret
     exact⟨ez,bz⟩
end
end Go.Proofs.YtecpgdfnamkfdaaGreatDoor.Fn
end
section
namespace Go.Proofs.YtecpgdfnamkfdaaGreatDoor.Pure
open Go.RowKit Go.Proofs.YtecpgdfnamkfdaaGreatDoorW.PrintWords Go.Proofs.YtecpgdfnamkfdaaGreatDoorW.PrintLast Go.Proofs.YtecpgdfnamkfdaaGreatDoorW.PrintMore Go.Proofs.YtecpgdfnamkfdaaGreatDoor.Fn
set_option linter.unusedVariables false
set_option linter.unusedSimpArgs false
theorem zif(wide:Bool){a b:Nat}(ha:a<18446744073709551616)(hb:b<18446744073709551616)(p m s sp z:Bool)(prec v:Int):
    Ev (fun k=>platenlaw07_CplxBack.j0 k (szC wide) (a:Int) (b:Int) p m s sp z (-1) prec v) true:=by
  have f0:=zei wide ha hb p m s sp z (-1) prec v
  have f1:=zdf wide ha p m s sp z (-1) prec v
  have f2:=zdf wide hb true m s sp z (-1) prec v
  refine Ev.step (fun k=>by simp only[platenlaw07_CplxBack.j0];rfl) ?_
  rw[ziS]
  by_cases c:codeV v=0
  · rw[zh2 _ _ _ _ _ _ _ _ _ _ _ c] at f0
    rw[zeT _ _ _ _ _ _ _ _ _ _ c] at f1 f2
    refine Ev.bind f0 ?_
    refine Ev.bind f1 ?_
    refine Ev.bind f2 ?_
    refine Ev.congr (fun k=>if_neg (by simp)) ?_
    refine Ev.step (fun k=>by simp only[platenlaw07_CplxBack.j1];rfl) ?_
    refine Ev.congr (fun k=>if_pos (by first|rfl|trivial)) ?_
    refine Ev.congr (fun k=>if_pos rfl) ?_
    refine Ev.congr (fun k=>if_pos rfl) ?_
    refine Ev.congr (fun k=>if_pos (by rw[zbd])) ?_
    exact zeU
  · rw[zgB _ _ _ _ _ _ _ _ _ _ _ c] at f0
    rw[zdI _ _ _ _ _ _ _ _ _ _ c] at f1 f2
    have l1:=zcQ wide a p m s sp z (-1) prec v
    have l2:=zcQ wide b true m s sp z (-1) prec v
    have fs:=zdY ([40]++(textL wide a p m s sp z (-1) prec v++(textL wide b true m s sp z (-1) prec v++[105,41]))) (by simp only[List.length_append,List.length_cons,List.length_nil];omega)
    rw[zgA] at fs
    generalize textL wide a p m s sp z (-1) prec v=A at*
    generalize textL wide b true m s sp z (-1) prec v=B at*
    refine Ev.bind f0 ?_
    refine Ev.bind f1 ?_
    refine Ev.bind f2 ?_
    refine Ev.congr (fun k=>if_pos rfl) ?_
    refine Ev.congr (fun k=>if_pos rfl) ?_
    refine Ev.step (fun k=>by simp only[platenlaw07_CplxBack.j1];rfl) ?_
    refine Ev.congr (fun k=>if_neg (by simp)) ?_
    refine Ev.bind fs ?_
    refine Ev.congr (fun k=>if_pos rfl) ?_
    refine Ev.congr (fun k=>if_pos rfl) ?_
    refine Ev.congr (fun k=>if_pos rfl) ?_
    have e1:(⟨#[40]⟩:ByteArray)++S A=S ([40]++A):=zbq [40] A
    have e2:S ([40]++A)++S B=S ([40]++A++B):=zbq _ _
    have e3:S ([40]++A++B)++(⟨#[105,41]⟩:ByteArray)=S ([40]++A++B++[105,41]):=zbq _ [105,41]
    rw[e1,e2,e3]
    refine Ev.congr (fun k=>if_pos (by rw[zaw];omega)) ?_
    refine Ev.congr (fun k=>if_pos (by rw[zaw,zaw,List.length_append,List.length_singleton];omega)) ?_
    refine Ev.congr (fun k=>if_pos (by rw[zaw,List.length_append,List.length_append,List.length_singleton];omega)) ?_
    refine Ev.congr (fun k=>if_pos (by simp only[List.append_assoc])) ?_
    exact zeU
theorem CplxBack: ∀(A:Int) (B:Int) (a1:Bool) (J:Bool) (K:Bool) (M:Bool) (O:Bool) (U:Bool) (D:Int) (E:Int) (I:Int),(Lit.int .u64 A).wf=true→(Lit.int .u64 B).wf=true→(Lit.int .i64 D).wf=true→(Lit.int .i64 E).wf=true→(Lit.int .i32 I).wf=true→ ∃k,platenlaw07_CplxBack.f k A B a1 J K M O U D E I=some true:=by
  intro a0 b0 wide p m s sp z wid prec v h0 h1 _ _ _
  obtain⟨a,rfl,ha⟩:=wf_u64 h0
  obtain⟨b,rfl,hb⟩:=wf_u64 h1
  refine Ev.rounds (g:=fun k=>platenlaw07_CplxBack.f k (a:Int) (b:Int) wide p m s sp z wid prec v) ?_
  unfold platenlaw07_CplxBack.f
  cases wide with
  |true=>exact Ev.congr (fun k=>if_pos rfl) (zif true ha hb p m s sp z prec v)
  |false=>exact Ev.congr (fun k=>if_neg (by simp)) (zif false ha hb p m s sp z prec v)
end Go.Proofs.YtecpgdfnamkfdaaGreatDoor.Pure
end
