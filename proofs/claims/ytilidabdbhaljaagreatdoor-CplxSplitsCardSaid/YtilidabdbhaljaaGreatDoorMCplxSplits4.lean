/- The law CplxSplits: the walks through its functions and its plain law (part 4). Own texts and the kit's printed words for this seat, without what the law does not use: put together by merge.py (of this work). -/
import Derived.Test.YtilidabdbhaljaaGreatDoorMCplxSplits3
import Derived.Handy
set_option linter.unusedVariables false
set_option linter.unusedSimpArgs false
section
namespace Go.Proofs.YtilidabdbhaljaaGreatDoor.Pure
open Go.RowKit Go.Proofs.YtilidabdbhaljaaGreatDoorW.PrintWords Go.Proofs.YtilidabdbhaljaaGreatDoorW.PrintLast Go.Proofs.YtilidabdbhaljaaGreatDoorW.PrintMore Go.Proofs.YtilidabdbhaljaaGreatDoor.Fn
structure Near (v : List UInt8 × Int) : Prop where
  form : InForm v.1 v.2
  len : v.1.length <= 1300
  lo : -2600 <= v.2
  hi : v.2 <= 1400
theorem Near.five{v:List UInt8×Int}(h:Near v):v.1.length<=2000/\ -5000<=v.2/\v.2<=5000:=by
 have:=h.len;have:=h.lo;have:=h.hi;omega
theorem zcA{m:Nat}(hm:m<18446744073709551616){e:Int}(h: -1200<=e/\e<=1200):Near (exD m e):=by
 have h1:=zck hm h;exact⟨zcy m e,h1.1,by omega,by omega⟩
theorem zdm(b s:Int){m:Nat}(hm:m<18446744073709551616){e:Int}(h: -1200<=e/\e<=1200)(prec v:Int)(dot:Bool):
 Ev (λk=>zaU.f k b s (m:Int) e prec dot v) (S (exD m e).1,(exD m e).2):=by
 have hx:=zcw m e hm;rw[zb6 m h] at hx;unfold zaU.f;exact Ev.bind hx (Ev.now _)
theorem zd1{v:List UInt8×Int}(h:Near v)(n:Int):Ev (λk=>za7.f k (S v.1) v.2 n) (S (roundN v.1 v.2 n).1,(roundN v.1 v.2 n).2,0):=by
 have hr:=zew (S v.1) v.2 n;have h5:=h.five;unfold roundS at hr;rw[zbU h.form h5.1 h5.2,if_pos rfl] at hr;simp only[L_S] at hr;exact hr
theorem zfp{v:List UInt8×Int}(h:Near v){n:Int}(hn: -20000<=n/\n<=20000):Ev (λk=>zbp.f k (S v.1) v.2 n) (S (roundN v.1 v.2 (v.2+n)).1,(roundN v.1 v.2 (v.2+n)).2,0):=by
 have hr:=zf3 (S v.1) v.2 n;have h5:=h.five;unfold roundS at hr;rw[zbU h.form h5.1 h5.2,if_pos rfl,show max (-20000) (min n 20000)=n by omega] at hr;simp only[L_S] at hr;exact hr
theorem zc7{v:List UInt8×Int}(h:InForm v.1 v.2)(n:Int):InForm (roundN v.1 v.2 n).1 (roundN v.1 v.2 n).2:=by
 unfold roundN;split
 ·exact⟨AllD.nil,λc t e=>(by cases e),rfl,λ_=>rfl⟩
 ·split
  ·exact h
  ·split<;>exact zbc _ _
theorem zbN{v:List UInt8×Int}(h:Near v)(n:Int):(roundN v.1 v.2 n).1.length<=1300/\ -4000<=(roundN v.1 v.2 n).2/\(roundN v.1 v.2 n).2<=1500:=by
 have h1:=h.len;have h2:=h.lo;have h3:=h.hi;unfold roundN;by_cases c1:n<0
 ·rw[if_pos c1];exact⟨Nat.zero_le _,by decide,by decide⟩
 ·rw[if_neg c1];by_cases c2:(v.1.length:Int)<=n
  ·rw[if_pos c2];exact⟨h1,by omega,by omega⟩
  ·rw[if_neg c2];(have hn:n.toNat<v.1.length:=by omega);have hv:=zcv (h.form.1.take n.toNat);rw[List.length_take,Nat.min_eq_left (Nat.le_of_lt hn)] at hv;have hp:10^n.toNat<=10^(n.toNat+1):=Nat.pow_le_pow_right (by decide) (Nat.le_succ _);have b1:=zbS (n:=val (v.1.take n.toNat)) (m:=n.toNat+1) (by omega) (v.2-n);have A:10^n.toNat+1<=10^(n.toNat+1):=by
    rw[Nat.pow_succ];have:1<=10^n.toNat:=Nat.pow_pos (by decide);omega
   have b2:=zbS (n:=val (v.1.take n.toNat)+1) (m:=n.toNat+1) (by omega) (v.2-n);split
   ·exact⟨by omega,by omega,by omega⟩
   ·exact⟨by omega,by omega,by omega⟩
theorem zfK{l:List UInt8}{n:Int}(h:1<=n):fillL l n≠[]:=by
 intro e;have:=zbj l n;rw[e] at this;simp at this;omega
theorem zb7{d:List UInt8×Int}(h: -4000<=d.2/\d.2<=1500): -4001<=firstL d/\firstL d<=1500:=by
 unfold firstL;split<;>omega
def six(prec:Int):Int:=if prec<0 then 6 else prec
theorem zgN(b s:Int){m:Nat}(hm:m<18446744073709551616){e:Int}(h: -1200<=e/\e<=1200){prec:Int}(hp: -1<=prec/\prec<=1000)(v:Int)(dot:Bool):
 Ev (λk=>zan.f k b s (m:Int) e prec dot v) (S (scaledL dot (bigV v) (exD m e) (six prec))):=by
 have hx:=zcA hm h;have key: ∀p:Int,0<=p->p<=1000->Ev (λk=>zan.j0 k p b s (m:Int) e prec dot v) (S (scaledL dot (bigV v) (exD m e) p)):=by
  intro p p0 p1;have hb:=zbN hx (p+1);have hfl:=zbj (roundN (exD m e).1 (exD m e).2 (p+1)).1 (p+1);have hfb:=zb7 (d:=roundN (exD m e).1 (exD m e).2 (p+1)) hb.2;refine Ev.step (λk=>by simp only[zan.j0];rfl) ?_;refine Ev.bind (zdm b s hm h prec v dot) ?_;rw[w64 (x:=p+1) (by omega) (by omega)];refine Ev.bind (zd1 hx (p+1)) ?_;unfold scaledL;generalize roundN (exD m e).1 (exD m e).2 (p+1)=d at*
  obtain⟨l,q⟩:=d;dsimp only at hb hfl hfb ⊢;rw[zbZ (by omega) (by omega)];simp only[Option.bind_some];rw[zdL _ (by omega)];simp only[Option.bind_some];exact Ev.bind (zgF b s (m:Int) e prec v dot (zfK (by omega)) (by omega) (by omega)) (Ev.now _)
 unfold zan.f six;by_cases c:prec<0
 ·rw[if_pos c];exact Ev.congr (λk=>if_pos c) (key 6 (by decide) (by decide))
 ·rw[if_neg c];exact Ev.congr (λk=>if_neg c) (key prec (by omega) hp.2)
theorem zhv(b s:Int){m:Nat}(hm:m<18446744073709551616){e:Int}(h: -1200<=e/\e<=1200){prec:Int}(hp: -1<=prec/\prec<=1000)(v:Int)(dot:Bool):
 Ev (λk=>zam.f k b s (m:Int) e prec dot v) (S (fixedL dot (exD m e) (six prec))):=by
 have hx:=zcA hm h;have key: ∀p:Int,0<=p->p<=1000->Ev (λk=>zam.j0 k p b s (m:Int) e prec dot v) (S (fixedL dot (exD m e) p)):=by
  intro p p0 p1;have hb:=zbN hx ((exD m e).2+p);refine Ev.step (λk=>by simp only[zam.j0];rfl) ?_;refine Ev.bind (zdm b s hm h prec v dot) ?_;refine Ev.bind (zfp hx (by omega)) ?_;unfold fixedL;generalize roundN (exD m e).1 (exD m e).2 ((exD m e).2+p)=d at*
  obtain⟨l,q⟩:=d;dsimp only at hb ⊢;by_cases c1:l=[]
  ·refine Ev.congr (λk=>if_pos ((zbF l).2 c1)) ?_;rw[if_pos c1,zcb (by omega) (by omega)];simp only[Option.bind_some];rw[show(⟨#[48]⟩:ByteArray)=S [48] from rfl,zbP _ _ _ _ _ _ _ (by rw[zbk];simp;omega)];exact Ev.now _
  ·refine Ev.congr (λk=>if_neg (λe=>c1 ((zbF l).1 e))) ?_;rw[if_neg c1];by_cases c2:q<=0
   ·refine Ev.congr (λk=>if_pos c2) ?_;rw[if_pos c2,w64 (x:= -q) (by omega) (by omega),zcb (by omega) (by omega)];simp only[Option.bind_some];refine Ev.congr (λk=>if_pos (by rw[zat,zat,zbk];omega)) ?_;have hfl:=zbj (zsL (-q).toNat++l) p;rw[List.length_append,zbk] at hfl;rw[zbC,zbZ (by rw[List.length_append,zbk];omega) (by omega)];simp only[Option.bind_some];rw[show(⟨#[48]⟩:ByteArray)=S [48] from rfl,zbP _ _ _ _ _ _ _ (by simp;omega)];exact Ev.now _
   ·refine Ev.congr (λk=>if_neg c2) ?_;have hfl:=zbj l (q+p);rw[if_neg c2,w64 (x:=q+p) (by omega) (by omega),zbZ (by omega) (by omega)];simp only[Option.bind_some];rw[zez _ _ _ _ _ _ _ (by omega) (by omega)];exact Ev.now _
 unfold zam.f six;by_cases c:prec<0
 ·rw[if_pos c];exact Ev.congr (λk=>if_pos c) (key 6 (by decide) (by decide))
 ·rw[if_neg c];exact Ev.congr (λk=>if_neg c) (key prec (by omega) hp.2)
theorem zfb(b s m e prec v:Int)(dot:Bool){d:List UInt8×Int}(hd:d.1.length<=2000/\ -4000<=d.2/\d.2<=1500){keep top:Int}(hk:1<=keep/\keep<=1000):
 Ev (λk=>zag.j0 k top keep b s m e prec dot v (S d.1) d.2) (S (genL dot (bigV v) d keep top)):=by
 obtain⟨l,q⟩:=d;dsimp only at hd ⊢;have hfb:=zb7 (d:=(l,q)) hd.2;have h3: ∀(x:List UInt8),x≠[]->x.length<=5000->Ev (λk=>zag.j2 k top (S x) b s m e prec dot v (S l) q) (S (if firstL (l,q)< -4\/firstL (l,q)>=top then sciL dot (bigV v) x (firstL (l,q)) else aroundL dot x (firstL (l,q)+1))):=by
  intro x hx hxl;refine Ev.step (λk=>by simp only[zag.j2];rfl) ?_;rw[zdL l (by omega)];simp only[Option.bind_some];obtain⟨z,hzz⟩: ∃z,firstL (l,q)=z:=⟨_,rfl⟩;rw[hzz] at hfb ⊢;have hs:Ev (λk=>zag.j3 k (S x) z true b s m e prec dot v (S l) q) (S (sciL dot (bigV v) x z)):=by
   refine Ev.step (λk=>by simp only[zag.j3];rfl) ?_;refine Ev.congr (λk=>if_pos trivial) ?_;exact Ev.bind (zgF b s m e prec v dot hx (by omega) (by omega)) (Ev.now _)
  by_cases c1:z< -4
  ·rw[if_pos (.inl c1)];exact Ev.congr (λk=>if_pos c1) hs
  ·refine Ev.congr (λk=>if_neg c1) ?_;by_cases c2:z>=top
   ·rw[if_pos (.inr c2),decide_eq_true c2];exact hs
   ·rw[if_neg (by omega),decide_eq_false c2];refine Ev.step (λk=>by simp only[zag.j3];rfl) ?_;refine Ev.congr (λk=>if_neg (by simp)) ?_;rw[zdL l (by omega)];simp only[Option.bind_some];(have hz: -100000<=firstL (l,q)+1/\firstL (l,q)+1<=100000:=by have:=zb7 (d:=(l,q)) hd.2;omega);rw[w64 (x:=firstL (l,q)+1) (by omega) (by omega),zez b s m e prec v dot (by omega) hz,hzz];exact Ev.now _
 have h2: ∀(x:List UInt8),x≠[]->x.length<=2000->Ev (λk=>zag.j1 k top keep (S x) b s m e prec dot v (S l) q) (S (if firstL (l,q)< -4\/firstL (l,q)>=top then sciL dot (bigV v) (if dot then fillL x keep else x) (firstL (l,q)) else aroundL dot (if dot then fillL x keep else x) (firstL (l,q)+1))):=by
  intro x hx hxl;refine Ev.step (λk=>by simp only[zag.j1];rfl) ?_;cases dot with
  |true=>
   refine Ev.congr (λk=>if_pos rfl) ?_;have hfl:=zbj x keep;rw[zbZ (by omega) (by omega)];simp only[Option.bind_some];exact h3 _ (zfK hk.1) (by omega)
  |false=>
   refine Ev.congr (λk=>if_neg (by simp)) ?_;exact h3 x hx (by omega)
 refine Ev.step (λk=>by simp only[zag.j0];rfl) ?_;unfold genL;dsimp only;by_cases c:l=[]
 ·refine Ev.congr (λk=>if_pos ((zbF l).2 c)) ?_;rw[if_pos c];exact h2 [48] (by simp) (by simp)
 ·refine Ev.congr (λk=>if_neg (λe=>c ((zbF l).1 e))) ?_;rw[if_neg c];exact h2 l c hd.1
def shortL(wide:Bool)(p:Nat):List UInt8×Int:=if p=0 then([],0) else shortD wide p
def genOf(wide:Bool)(p:Nat)(m:Nat)(e prec:Int)(dot big:Bool):List UInt8:=
  if prec<0 then genL dot big (shortL wide p) 6 21 else genL dot big (roundN (exD m e).1 (exD m e).2 (max prec 1)) (max prec 1) (max prec 1)
theorem ziQ(wide:Bool){a p:Nat}(ha:a<18446744073709551616)(hb:bareN wide a=p)(hp:p<ii wide)(hs:(shortL wide p).1.length<=2000/\ -4000<=(shortL wide p).2/\(shortL wide p).2<=1500){m:Nat}(hm:m<18446744073709551616){e:Int}(h: -1200<=e/\e<=1200){prec:Int}(hq: -1<=prec/\prec<=1000)(v:Int)(dot:Bool):
 Ev (λk=>zag.f k (a:Int) (szB wide) (m:Int) e prec dot v) (S (genOf wide p m e prec dot (bigV v))):=by
 unfold zag.f genOf;by_cases c:prec<0
 ·rw[if_pos c];refine Ev.congr (λk=>if_pos c) ?_;have hx:=zfo wide a ha;have e1:shortS wide a=(S (shortL wide p).1,(shortL wide p).2,0):=by
   unfold shortS shortL;rw[hb,if_neg (by omega)];split<;>rfl
  rw[e1] at hx;refine Ev.bind hx ?_;exact zfb _ _ _ _ _ v dot hs (by decide)
 ·rw[if_neg c];refine Ev.congr (λk=>if_neg c) ?_;have hn:=zcA hm h;have hbd:=zbN hn (max prec 1);refine Ev.bind (zdm _ _ hm h prec v dot) ?_;rw[zcJ];refine Ev.bind (zd1 hn (max prec 1)) ?_;exact zfb _ _ _ _ _ v dot (by omega) (by omega)
theorem zfc(x j:Nat)(hj:j<=64):shl .u64 (x:Int) (j:Int)=((x*2^j%18446744073709551616:Nat):Int):=by
 unfold shl;rw[Int.toNat_natCast,show min j (IntKind.u64.bits)=j from Nat.min_eq_left (by simpa [IntKind.bits] using hj),IntKind.wrap_u64];rw[show((2:Int)^j)=((2^j:Nat):Int) by simp];generalize 2^j=P;rw[<-Int.natCast_mul];generalize x*P=y;omega
def hexEnd(dot up:Bool)(lead ds:List UInt8)(x:Int):List UInt8:=
  if up then Lib.toUpperA ([48,120]++(ptL dot lead ds++powL [112] x 2)) else [48,120]++(ptL dot lead ds++powL [112] x 2)
theorem zcM(b s m e prec v:Int)(dot:Bool){lead ds:List UInt8}{x:Int}(hl:lead.length<=10/\Asc lead)(hd:ds.length<=2000/\Asc ds)(hx: -100000<=x/\x<=100000):
 Ev (λk=>zad.j4 k (S lead) x (S ds) b s m e prec dot v) (S (hexEnd dot (v==88) lead ds x)):=by
 have h1:=zb0 dot lead ds;have h2:=zcc ([112]:List UInt8) (e:=x) (least:=2) (by decide);have ha:Asc ([48,120]++(ptL dot lead ds++powL [112] x 2)):=Asc.app (by decide) ((zca hl.2 hd.2 dot).app (zc5 (by decide) x 2));refine Ev.step (λk=>by simp only[zad.j4];rfl) ?_;rw[zbP b s m e prec v dot (by omega)];simp only[Option.bind_some];rw[show(⟨#[112]⟩:ByteArray)=S [112] from rfl,zdK (by decide) hx (by decide)];simp only[Option.bind_some];rw[show(⟨#[48,120]⟩:ByteArray)=S [48,120] from rfl,zfE (by simp at h2 ⊢;omega)];simp only[Option.bind_some];unfold hexEnd;by_cases c:v=88
 ·refine Ev.congr (λk=>if_pos c) ?_;rw[show(v==88)=true from beq_iff_eq.mpr c,if_pos rfl];have hu:zbf.f (S ([48,120]++(ptL dot lead ds++powL [112] x 2)))=some (S (Lib.toUpperA ([48,120]++(ptL dot lead ds++powL [112] x 2)))):=by
   unfold zbf.f;rw[if_pos ⟨by rw[zat];simp at h2 ⊢;omega,List.all_eq_true.2 (λc hc=>decide_eq_true (ha c hc))⟩];rfl
  rw[hu];exact Ev.now _
 ·refine Ev.congr (λk=>if_neg c) ?_;rw[show(v==88)=false from beq_eq_false_iff_ne.mpr c,if_neg (by simp)];exact Ev.now _
def hexUp(lead:List UInt8)(part p:Nat):Prop:=
  9223372036854775808<part*2^(4*p)%18446744073709551616\/(part*2^(4*p)%18446744073709551616=9223372036854775808/\(part / 2^(64-4*p)%2=1\/(p=0/\lead=[49])))
instance (lead : List UInt8) (part p : Nat) : Decidable (hexUp lead part p) := by unfold hexUp; infer_instance
def hexKept(lead:List UInt8)(part p:Nat):Nat:=if hexUp lead part p then part / 2^(64-4*p)+1 else part / 2^(64-4*p)
def hexMid(dot up:Bool)(lead:List UInt8)(part p:Nat)(x:Int):List UInt8:=
  let over:=0<hexKept lead part p / 2^(4*p)
  hexEnd dot up lead (if p=0 then [] else(sixL (if over then 0 else hexKept lead part p*2^(64-4*p)%18446744073709551616)).take p) (if over then x+1 else x)
def hexTail(dot up:Bool)(lead:List UInt8)(part:Nat)(x prec:Int):List UInt8:=
  if prec<0 then hexEnd dot up lead (rz (sixL part)) x else if prec>=16 then hexEnd dot up lead (fillL (sixL part) prec) x else hexMid dot up lead part prec.toNat x
def hexL(m:Nat)(e prec:Int)(dot up:Bool):List UInt8:=
  if m=0 then hexTail dot up [48] 0 0 prec else hexTail dot up [49] (m*2^(64-Lib.bitLen m)%18446744073709551616*2%18446744073709551616) (e+Lib.bitLen m-1) prec
theorem zct(n:Nat):Asc (sixL n):=(zcs _).app (ze1 (by decide) n)
theorem zgO{l:List UInt8}(h:Asc l):Asc (rz l):=by
 obtain⟨k,hk⟩:=zcF l;intro c hc;exact h c (by rw[hk];exact List.mem_append_left _ hc)
theorem zgP(l:List UInt8):(rz l).length<=l.length:=zbY l
theorem zd2(b s m e v:Int)(dot:Bool){lead:List UInt8}(hl:lead=[48]\/lead=[49]){part:Nat}(hp:part<=18446744073709551615){x:Int}(hx: -90000<=x/\x<=90000){prec:Int}(hq: -1<=prec/\prec<=1000):
 Ev (λk=>zad.j0 k (S lead) (part:Int) x b s m e prec dot v) (S (hexTail dot (v==88) lead part x prec)):=by
 (have A:lead.length<=10/\Asc lead:=by rcases hl with rfl|rfl<;>exact⟨by decide,by decide⟩);have hsl:=zdM hp;refine Ev.step (λk=>by simp only[zad.j0];rfl) ?_;unfold hexTail;by_cases c1:prec<0
 ·refine Ev.congr (λk=>if_pos c1) ?_;rw[if_pos c1,ze4 hp];simp only[Option.bind_some];have hr:=zgP (sixL part);rw[trimR _ (by rw[zat];omega),L_S];simp only[Option.bind_some];exact zcM b s m e prec v dot A ⟨by omega,zgO (zct _)⟩ (by omega)
 ·refine Ev.congr (λk=>if_neg c1) ?_;rw[if_neg c1];by_cases c2:prec>=16
  ·refine Ev.congr (λk=>if_pos c2) ?_;have hfl:=zbj (sixL part) prec;rw[if_pos c2,ze4 hp];simp only[Option.bind_some];rw[zbZ (by omega) (by omega)];simp only[Option.bind_some];exact zcM b s m e prec v dot A ⟨by omega,zbE (zct _) _⟩ (by omega)
  ·refine Ev.congr (λk=>if_neg c2) ?_;rw[if_neg c2];obtain⟨p,rfl⟩: ∃p:Nat,prec=p:=⟨prec.toNat,by omega⟩;rw[Int.toNat_natCast];(have O:p<16:=by omega);have w1:IntKind.u64.wrap (wrap64 (64-wrap64 (4*(p:Int))))=((64-4*p:Nat):Int):=by
    rw[w64 (x:=4*(p:Int)) (by omega) (by omega),w64 (by omega) (by omega),show(64-4*(p:Int))=((64-4*p:Nat):Int) by omega];exact u64c _ (by omega)
   have w2:IntKind.u64.wrap (64-((64-4*p:Nat):Int))=((4*p:Nat):Int):=by
    rw[show(64-((64-4*p:Nat):Int))=((4*p:Nat):Int) by omega];exact u64c _ (by omega)
   rw[w1,w2];refine Ev.congr (λk=>if_pos (by omega)) ?_;have hlow: ∀low:Int,low=((part*2^(4*p)%18446744073709551616:Nat):Int)->Ev (λk=>zad.j1 k (S lead) (part:Int) x (⟨#[]⟩:ByteArray) ((64-4*p:Nat):Int) low b s m e (p:Int) dot v) (S (hexMid dot (v==88) lead part p x)):=by
    intro low hlo;have hkb:part / 2^(64-4*p)<=18446744073709551615:=Nat.le_trans (Nat.div_le_self _ _) hp;have J:part / 2^(64-4*p)<2^(4*p):=by
     refine Nat.div_lt_of_lt_mul ?_;rw[<-Nat.pow_add,show 64-4*p+4*p=64 by omega];omega
    have hpw:2^(4*p)<=2^60:=Nat.pow_le_pow_right (by decide) (by omega);(have X:(2:Nat)^60=1152921504606846976:=by decide);have hsh:=zdZ part (64-4*p) (by omega);have key: ∀u:Bool,u=decide (hexUp lead part p)->Ev (λk=>zad.j3 k (S lead) x (⟨#[]⟩:ByteArray) ((64-4*p:Nat):Int) ((part / 2^(64-4*p):Nat):Int) u b s m e (p:Int) dot v) (S (hexMid dot (v==88) lead part p x)):=by
     intro u hu;unfold hexMid hexKept;dsimp only
     have fin: ∀(kk:Nat) (y:Int),kk<=18446744073709551615-> -90001<=y/\y<=90001->
      Ev (λk=>if(p:Int)>0 then(if 0<=((64-4*p:Nat):Int) then((zaR.f (shl .u64 (kk:Int) ((64-4*p:Nat):Int))).bind λB=>(if 0<=(p:Int) then(if(p:Int)<=(B.size:Int) then(zad.j4 k (S lead) y (B.extract 0 ((p:Int)).toNat) b s m e (p:Int) dot v) else none) else none)) else none) else(zad.j4 k (S lead) y (⟨#[]⟩:ByteArray) b s m e (p:Int) dot v))
       (S (hexEnd dot (v==88) lead (if p=0 then [] else(sixL (kk*2^(64-4*p)%18446744073709551616)).take p) y)):=by
      intro kk y hkk hy
      by_cases c0:p=0
      ·subst c0
       exact Ev.congr (λk=>if_neg (by decide)) (zcM (ds:=[]) b s m e _ v dot A ⟨by decide,Asc.nil⟩ (by omega))
      ·have D:kk*2^(64-4*p)%18446744073709551616<=18446744073709551615:=by omega
       have U:=zdM D
       refine Ev.congr (λk=>if_pos (by omega)) ?_
       refine Ev.congr (λk=>if_pos (by omega)) ?_
       rw[zfc kk (64-4*p) (by omega),ze4 D]
       simp only[Option.bind_some]
       refine Ev.congr (λk=>if_pos (by omega)) ?_
       refine Ev.congr (λk=>if_pos (by rw[zat];omega)) ?_
       rw[Int.toNat_natCast,zb2,if_neg c0]
       exact zcM b s m e _ v dot A ⟨by rw[List.length_take];omega,(zct _).take p⟩ (by omega)
     refine Ev.step (λk=>by simp only[zad.j3];rfl) ?_;by_cases cu:hexUp lead part p
     ·(have E:u=true:=by rw[hu];exact decide_eq_true cu);subst E;rw[if_pos cu];refine Ev.congr (λk=>if_pos rfl) ?_;generalize hK:part / 2^(64-4*p)=K at*
      (have I:K+1<=18446744073709551615:=by omega);have w3:IntKind.u64.wrap ((K:Int)+1)=((K+1:Nat):Int):=by
       rw[show((K:Int)+1)=((K+1:Nat):Int) by omega];exact u64c _ I
      rw[w2,w3,zdZ (K+1) (4*p) (by omega)];refine Ev.congr (λk=>if_pos (by omega)) ?_;by_cases co:0<(K+1) / 2^(4*p)
      ·refine Ev.congr (λk=>if_pos (by omega)) ?_;rw[if_pos co,if_pos co,w64 (x:=x+1) (by omega) (by omega)];have:=fin 0 (x+1) (by decide) (by omega);rw[Nat.zero_mul,Nat.zero_mod] at this;exact this
      ·refine Ev.congr (λk=>if_neg (by omega)) ?_;rw[if_neg co,if_neg co];exact fin (K+1) x I (by omega)
     ·(have E:u=false:=by rw[hu];exact decide_eq_false cu);subst E;have hz:part / 2^(64-4*p) / 2^(4*p)=0:=Nat.div_eq_of_lt J;rw[if_neg cu,hz];simp only[Nat.lt_irrefl,if_false];refine Ev.congr (λk=>if_neg (by simp)) ?_;exact fin _ x hkb (by omega)
    have j2: ∀odd:Bool,odd=decide (part / 2^(64-4*p)%2=1\/(p=0/\lead=[49]))->Ev (λk=>zad.j2 k (S lead) x (⟨#[]⟩:ByteArray) ((64-4*p:Nat):Int) low ((part / 2^(64-4*p):Nat):Int) odd b s m e (p:Int) dot v) (S (hexMid dot (v==88) lead part p x)):=by
     intro odd hodd;refine Ev.step (λk=>by simp only[zad.j2];rfl) ?_;rw[hlo];generalize hW:part*2^(4*p)%18446744073709551616=W at*
     by_cases d1:9223372036854775808<W
     ·refine Ev.congr (λk=>if_pos (by omega)) ?_;exact key true (by rw[eq_comm];refine decide_eq_true ?_;unfold hexUp;rw[hW];exact .inl d1)
     ·refine Ev.congr (λk=>if_neg (by omega)) ?_;by_cases d2:W=9223372036854775808
      ·refine Ev.congr (λk=>if_pos (by omega)) ?_;refine key odd ?_;rw[hodd];refine decide_eq_decide.2 ?_;unfold hexUp;rw[hW];exact⟨λh=>.inr ⟨d2,h⟩,λh=>h.elim (λh=>absurd h d1) (λh=>h.2)⟩
      ·refine Ev.congr (λk=>if_neg (by omega)) ?_;exact key false (by rw[eq_comm];refine decide_eq_false ?_;unfold hexUp;rw[hW];rintro(h|h);exact d1 h;exact d2 h.1)
    refine Ev.step (λk=>by simp only[zad.j1];rfl) ?_;refine Ev.congr (λk=>if_pos (by omega)) ?_;rw[hsh,show Int.tmod ((part / 2^(64-4*p):Nat):Int) 2=((part / 2^(64-4*p)%2:Nat):Int) from tmodN _ 2];by_cases d:part / 2^(64-4*p)%2=1
    ·refine Ev.congr (λk=>if_pos (by omega)) ?_;exact j2 true (by rw[eq_comm];exact decide_eq_true (.inl d))
    ·refine Ev.congr (λk=>if_neg (by omega)) ?_;by_cases d0:p=0
     ·refine Ev.congr (λk=>if_pos (by omega)) ?_;refine j2 _ ?_;rw[zbe,L_S,Bool.eq_iff_iff];simp[d0];intro h;subst d0;exact absurd h d
     ·refine Ev.congr (λk=>if_neg (by omega)) ?_;exact j2 false (by rw[eq_comm];refine decide_eq_false ?_;rintro(h|h);exact d h;exact d0 h.1)
   by_cases c4:((64-4*p:Nat):Int)=64
   ·(have M:p=0:=by omega);refine Ev.congr (λk=>if_pos c4) ?_;exact hlow _ (by subst M;simp;omega)
   ·refine Ev.congr (λk=>if_neg c4) ?_;exact hlow _ (zfc part (4*p) (by omega))
theorem bitLen_le: ∀(f x:Nat),Lib.bitLenAux f x<=f
 |0,_=>Nat.le_refl _
 |f+1,x=>by
  unfold Lib.bitLenAux
  split
  ·exact Nat.zero_le _
  ·have:=bitLen_le f (x / 2);omega
theorem ziR(b s v:Int)(dot:Bool){m:Nat}(hm:m<18446744073709551616){e:Int}(h: -1200<=e/\e<=1200){prec:Int}(hq: -1<=prec/\prec<=1000):
 Ev (λk=>zad.f k b s (m:Int) e prec dot v) (S (hexL m e prec dot (v==88))):=by
 unfold zad.f hexL;by_cases c:m=0
 ·rw[if_pos c];refine Ev.congr (λk=>if_neg (by omega)) ?_;exact zd2 (lead:=[48]) (part:=0) b s (m:Int) e v dot (.inl rfl) (by decide) (by decide) hq
 ·rw[if_neg c];refine Ev.congr (λk=>if_pos (by omega)) ?_;have hb:=bitLen_le 64 m;have hL:bits_Len64.f (m:Int)=some (Lib.bitLen m:Int):=by
   unfold bits_Len64.f;rw[if_pos ⟨by omega,by omega⟩,Int.toNat_natCast]
  rw[hL];simp only[Option.bind_some];change Lib.bitLen m<=64 at hb;generalize Lib.bitLen m=n at*
  rw[w64 (x:=64-(n:Int)) (by omega) (by omega)];refine Ev.congr (λk=>if_pos (by omega)) ?_;rw[show(64-(n:Int))=((64-n:Nat):Int) by omega,zfc m (64-n) (by omega),w64 (x:=e+(n:Int)) (by omega) (by omega),w64 (by omega) (by omega)];have w:IntKind.u64.wrap (((m*2^(64-n)%18446744073709551616:Nat):Int)*2)=((m*2^(64-n)%18446744073709551616*2%18446744073709551616:Nat):Int):=by
   rw[IntKind.wrap_u64];generalize m*2^(64-n)=y;omega
  rw[w];exact zd2 (lead:=[49]) b s (m:Int) e v dot (.inr rfl) (by omega) (by omega) hq
end Go.Proofs.YtilidabdbhaljaaGreatDoor.Pure
end
section
namespace Go.Proofs.YtilidabdbhaljaaGreatDoor.Pure
open Go.RowKit Go.Proofs.YtilidabdbhaljaaGreatDoorW.PrintWords Go.Proofs.YtilidabdbhaljaaGreatDoor.Fn
theorem zb8(wide:Bool)(p:Nat)(v:List UInt8×Int)(d n:Nat):shortGo wide p v (d+1) n=(bestD wide p v n).getD (shortGo wide p v d (n+1)):=by
 (conv=>lhs;unfold shortGo);cases bestD wide p v n<;>rfl
theorem zi5(wide:Bool){p:Nat}(hp:p<ii wide):dX wide (val (exV wide p).1) ((exV wide p).2-(exV wide p).1.length)=fW (ff wide) p*(2*CC):=by
 have hv:=zei wide hp;have h1:=hv.len;have h2:=hv.lo;have h3:=zdu;have hc:=zfn wide (Nat.le_of_lt hp) (l:=(exV wide p).1) (q:=(exV wide p).2) hv.form (by omega);have h0:cmpD (exV wide p).1 (exV wide p).2 (exV wide p).1 (exV wide p).2=0:=by
  unfold cmpD;exact zeq _
 have A:cmpD (exV wide p).1 (exV wide p).2 (exV wide p).1 (exV wide p).2=cmpN (fW (ff wide) p*(2*CC)) (dX wide (val (exV wide p).1) ((exV wide p).2-(exV wide p).1.length)):=hc;rw[h0] at A;exact((zdl _ _).1 A.symm).symm
theorem zhw(wide:Bool){p:Nat}(hp:p<ii wide):rdX wide (fW (ff wide) p*(2*CC))=p:=by
 have hC:=ze6;have m:=zcP (zeL (f:=ff wide) (Nat.lt_succ_self p)) hC;simp only[Nat.succ_eq_add_one] at m;have hfl:fFloor (ff wide) (ii wide) (fW (ff wide) p*(2*CC)) (2*CC) p:=⟨Nat.le_of_lt hp,Nat.le_refl _,λ_=>Nat.lt_trans m.1 m.2⟩;rw[zhJ wide hfl,if_neg (Nat.ne_of_lt hp),if_neg];rintro(h|h)
 ·exact Nat.lt_asymm h m.1
 ·exact absurd h.1 (Nat.ne_of_lt m.1)
theorem zij(wide:Bool)(p:Nat)(v:List UInt8×Int): ∀d n,v.1.length<=n+d-> ∃N,n<=N/\bestD wide p v N=some (shortGo wide p v d n)/\ ∀j,n<=j->j<N->bestD wide p v j=none:=by
 intro d;induction d with
 |zero=>
  intro n h;exact⟨n,Nat.le_refl _,zcz wide p v h,λj h1 h2=>absurd h1 (Nat.not_le.2 h2)⟩
 |succ d ih=>
  intro n h;rw[zb8];cases hb:bestD wide p v n with
  |some r=>exact⟨n,Nat.le_refl _,hb,λj h1 h2=>absurd h1 (Nat.not_le.2 h2)⟩
  |none=>
   obtain⟨N,h1,h2,h3⟩:=ih (n+1) (by omega);refine⟨N,by omega,h2,λj h4 h5=>?_⟩;by_cases c:j=n
   ·rw[c];exact hb
   ·exact h3 j (by omega) h5
theorem zf6(wide:Bool)(p:Nat): ∃N,1<=N/\bestD wide p (exV wide p) N=some (shortD wide p)/\ ∀j,1<=j->j<N->bestD wide p (exV wide p) j=none:=
 zij wide p (exV wide p) (exV wide p).1.length 1 (Nat.le_add_left _ _)
theorem zgQ{wide:Bool}{p:Nat}{v d:List UInt8×Int}{n:Nat}(h:bestD wide p v n=some d):(v.1.length<=n/\d=v)\/(n<v.1.length/\ ∃u,(u=cU v n\/u=cU v n+1)/\d=decOf u (cE v n)/\isP wide p u (cE v n)):=by
 unfold bestD at h;by_cases c1:v.1.length<=n
 ·rw[if_pos c1] at h;exact .inl ⟨c1,(Option.some.inj h).symm⟩
 ·rw[if_neg c1] at h;refine .inr ⟨Nat.lt_of_not_le c1,?_⟩;by_cases c2:isP wide p (nearU v n) (cE v n)
  ·rw[if_pos c2] at h;exact⟨_,zeB v n,(Option.some.inj h).symm,c2⟩
  ·rw[if_neg c2] at h;by_cases c3:isP wide p (cU v n) (cE v n)
   ·rw[if_pos c3] at h;exact⟨_,.inl rfl,(Option.some.inj h).symm,c3⟩
   ·rw[if_neg c3] at h;by_cases c4:isP wide p (cU v n+1) (cE v n)
    ·rw[if_pos c4] at h;exact⟨_,.inr rfl,(Option.some.inj h).symm,c4⟩
    ·rw[if_neg c4] at h;cases h
end Go.Proofs.YtilidabdbhaljaaGreatDoor.Pure
end
section
namespace Go.Proofs.YtilidabdbhaljaaGreatDoor.Fn
open Go.RowKit Go.Proofs.YtilidabdbhaljaaGreatDoorW.PrintWords Go.Proofs.YtilidabdbhaljaaGreatDoorW.PrintLast Go.Proofs.YtilidabdbhaljaaGreatDoorW.PrintMore
set_option maxHeartbeats 8000000
set_option maxRecDepth 100000
section
attribute [local go_sem] fnW_0 fnW_1 fnW_2 fnW_3 fnW_4 fnW_5 fnW_guard fnW_eql zaB zaC zaH zaI
mutual
def zaf.j0:Nat->Int->Int->Bool->Int->Int->Int->Int->Bool->Bool->Bool->Bool->Bool->Bool->Int->Int->Int->Option (ByteArray×Bool)
 |0,_,_,_,_,_,_,_,_,_,_,_,_,_,_,_,_=>none
 |k+1,x0,x1,x8,x9,U,O,X,Y,A,B,D,E,I,J,K,M=>if Y=true then(some ((⟨#[]⟩:ByteArray),false)) else(if x8=true then(zaf.j1 k x0 x1 x9 U O X (⟨#[]⟩:ByteArray) (O !=2) A B D E I J K M) else(zaf.j1 k x0 x1 x9 U O X (⟨#[]⟩:ByteArray) false A B D E I J K M))
def zaf.j2:Nat->Int->Int->Int->Int->Int->Int->ByteArray->Bool->Bool->Bool->Bool->Bool->Int->Int->Int->Option (ByteArray×Bool)
 |0,_,_,_,_,_,_,_,_,_,_,_,_,_,_,_=>none
 |k+1,x0,x1,x9,U,Y,X,O,E,I,D,J,M,K,B,A=>if Y=2 then(zaf.j3 k O (⟨#[78,97,78]⟩:ByteArray) E I D J false K B A) else(if Y=1 then(zaf.j3 k O (⟨#[73,110,102]⟩:ByteArray) E I D J false K B A) else(if D=true then(if X=1 then((zan.f k x0 x1 x9 U (mx (-1) (mn B 1000)) (A !=118) A).bind λZ=>(zaf.j3 k O Z E I D J M K B A)) else(if X=2 then((zam.f k x0 x1 x9 U (mx (-1) (mn B 1000)) (A !=118) A).bind λaa=>(zaf.j3 k O aa E I D J M K B A)) else(if X=3 then((zag.f k x0 x1 x9 U (mx (-1) (mn B 1000)) (A !=118) A).bind λab=>(zaf.j3 k O ab E I D J M K B A)) else(if X=4 then((zaE.f x0 x1 x9 U (mx (-1) (mn B 1000)) (A !=118) A).bind λac=>(zaf.j3 k O ac E I D J M K B A)) else(if X=5 then((zad.f k x0 x1 x9 U (mx (-1) (mn B 1000)) (A !=118) A).bind λad=>(zaf.j3 k O ad E I D J M K B A)) else(none)))))) else(if X=1 then((zan.f k x0 x1 x9 U (mx (-1) (mn B 1000)) false A).bind λae=>(zaf.j3 k O ae E I D J M K B A)) else(if X=2 then((zam.f k x0 x1 x9 U (mx (-1) (mn B 1000)) false A).bind λaf=>(zaf.j3 k O af E I D J M K B A)) else(if X=3 then((zag.f k x0 x1 x9 U (mx (-1) (mn B 1000)) false A).bind λag=>(zaf.j3 k O ag E I D J M K B A)) else(if X=4 then((zaE.f x0 x1 x9 U (mx (-1) (mn B 1000)) false A).bind λah=>(zaf.j3 k O ah E I D J M K B A)) else(if X=5 then((zad.f k x0 x1 x9 U (mx (-1) (mn B 1000)) false A).bind λai=>(zaf.j3 k O ai E I D J M K B A)) else(none))))))))
def zaf.j3:Nat->ByteArray->ByteArray->Bool->Bool->Bool->Bool->Bool->Int->Int->Int->Option (ByteArray×Bool)
 |0,_,_,_,_,_,_,_,_,_,_=>none
 |k+1,O,U,D,A,E,I,B,J,K,M=>if B=true then(zaf.j4 k O U (!A) D A E I B J K M) else(zaf.j4 k O U false D A E I B J K M)
def zaf.j4:Nat->ByteArray->ByteArray->Bool->Bool->Bool->Bool->Bool->Bool->Int->Int->Int->Option (ByteArray×Bool)
 |0,_,_,_,_,_,_,_,_,_,_,_=>none
 |k+1,O,M,aa,B,D,E,I,X,A,J,K=>if aa=true then((zbh.f 48 (wrap64 ((wrap64 ((mx 0 (mn A 1000))-(O.size:Int)))-(M.size:Int)))).bind λU=>(if U.size+M.size<=9223372036854775807 then(if O.size+(U++M).size<=9223372036854775807 then((zbi.f (O++(U++M)) B D E I false A J K).bind λY=>(some (Y,true))) else(none)) else(none))) else(if O.size+M.size<=9223372036854775807 then((zbi.f (O++M) B D E I false A J K).bind λZ=>(some (Z,true))) else(none))
def zaf.j1:Nat->Int->Int->Int->Int->Int->Int->ByteArray->Bool->Bool->Bool->Bool->Bool->Bool->Int->Int->Int->Option (ByteArray×Bool)
 |0,_,_,_,_,_,_,_,_,_,_,_,_,_,_,_,_=>none
 |k+1,x0,x1,x9,U,O,X,Y,Z,A,D,E,B,I,J,K,M=>if Z=true then(zaf.j2 k x0 x1 x9 U O X (⟨#[45]⟩:ByteArray) A D E B I J K M) else(if A=true then(zaf.j2 k x0 x1 x9 U O X (⟨#[43]⟩:ByteArray) A D E B I J K M) else(if B=true then(zaf.j2 k x0 x1 x9 U O X (⟨#[32]⟩:ByteArray) A D E B I J K M) else(if O=1 then(zaf.j2 k x0 x1 x9 U O X (⟨#[43]⟩:ByteArray) A D E B I J K M) else(zaf.j2 k x0 x1 x9 U O X Y A D E B I J K M))))
end
def zaf.f(k:Nat)(a0:Int)(a1:Int)(E:Bool)(I:Bool)(J:Bool)(K:Bool)(M:Bool)(O:Int)(U:Int)(B:Int):Option (ByteArray×Bool):=(zbz.f a0 a1).bind λA=>((zaw.f k B).bind λD=>(if A.2.2.2=3 then(zaf.j0 k a0 a1 A.1 A.2.1 A.2.2.1 A.2.2.2 D true E I J K M O U B) else(zaf.j0 k a0 a1 A.1 A.2.1 A.2.2.1 A.2.2.2 D (D==0) E I J K M O U B)))
theorem zaf.calls(k:Nat)(a0:Int)(a1:Int)(J:Bool)(K:Bool)(ae:Bool)(M:Bool)(O:Bool)(E:Int)(I:Int)(A:Int)(r1:ByteArray)(r2:Bool)(w:World)(h:zaf.f k a0 a1 J K ae M O E I A=some (r1,r2)):
  Calls Tryz.prog 18 #[.int .u64 a0,.int .i64 a1,.agg #[.bool J,.bool K,.bool ae,.bool M,.bool O,.int .i64 E,.int .i64 I,.int .i32 A]] w λe w'=>e= .returned (.tuple #[.string r1,.bool r2])/\Below w.heap.size w w':=by
 have lZ:=Tryz.underlying26;have l0:=Tryz.underlying52;have HB:=zaa.mk (Below.refl w.heap.size w);have H:((zbz.f a0 a1).bind λam=>((zaw.f k A).bind λah=>(if am.2.2.2=3 then(zaf.j0 k a0 a1 am.1 am.2.1 am.2.2.1 am.2.2.2 ah true J K ae M O E I A) else(zaf.j0 k a0 a1 am.1 am.2.1 am.2.2.1 am.2.2.2 ah (ah==0) J K ae M O E I A))))=some (r1,r2):=h;clear h;replace H:=bs H;obtain⟨⟨bf,ab,ac,ar⟩,A4,H⟩:=H;dsimp only at H;replace H:=bs H;obtain⟨ah,A5,H⟩:=H;have bQ:=zaa.mk H;clear H;go_enter Tryz.func18,Tryz.ntmps18;(go_upto_region 3 with(first|((with_reducible refine zai (N:=5) rfl ?_);refine zah rfl (N:=5) rfl (cs:=#[.bool J,.bool K,.bool ae,.bool M,.bool O,.int .i64 E,.int .i64 I,.int .i32 A]) (t:=26) gz ?_;intro D hg w7 hbox hb;have lh:=gN bz hg;have B:=zaa.mk hbox;replace HB:=bN bz hb;clear hb hbox hg)|((with_reducible refine zac (f:=24) rfl ?_);refine gB Tryz.func24 (zbz.calls a0 a1 bf ab ac ar _ A4.out) ?_;intro w8 hb;replace B:=kN (g:=D) (cs:=#[.bool J,.bool K,.bool ae,.bool M,.bool O,.int .i64 E,.int .i64 I,.int .i32 A]) hb bk;replace HB:=bN bz hb;clear hb;obtain⟨au,av,aw,ax,ay,az,aA,aB,aC,aD,aE,aF,aG,aH,aI,aJ⟩:=cz8 B)|((with_reducible refine zac (f:=25) rfl ?_);refine zaO (some 26) rfl rfl Tryz.func25 (by kernel_rfl) rfl #[.int .i32 A] rfl lz ?_;(with_reducible refine(zaw.calls k A ah _ A5.out).mono ?_);rintro e w' ⟨rfl,⟨nd,rfl⟩⟩;refine⟨_,rfl,?_⟩)));(try simp only[Act.put,List.setIfInBounds_toArray,List.set_cons_zero,List.set_cons_succ]);go_cut [32] (λli wc=> ∃(kq:Nat) (aP:Bool),li= .bool aP/\zaa (zaf.j0 kq a0 a1 bf ab ac ar ah aP J K ae M O E I A=some (r1,r2))/\zaa (kq<=k)/\zaa (wc.heap[D]? =some (.cells #[.bool J,.bool K,.bool ae,.bool M,.bool O,.int .i64 E,.int .i64 I,.int .i32 A] 26 (0,0)))/\zaa (Below w.heap.size w wc));case first=>
  have H:=bQ.out;clear bQ;by_cases bg:ar=3
  (·replace H:=hE H bg;obtain⟨a2,a3⟩:=eT bg;clear bg;(try first|rw[a2]|rw[a3]);have H':=zaa.mk H;clear H;go_wp2;go_meet;case rel=>exact⟨_,(true),rz,H',⟨by first|omega|exact Nat.le_refl _⟩,⟨bk⟩,⟨bz⟩⟩);replace H:=hN H bg;obtain⟨a2,a3⟩:=eF bg;(try first|rw[a2]|rw[a3]);have H':=zaa.mk H;clear H;go_wp2;go_meet;case rel=>exact⟨_,((ah==0)),rz,H',⟨by first|omega|exact Nat.le_refl _⟩,⟨bk⟩,⟨bz⟩⟩
 case rest=>
  clear bQ;(try clear au av aw ax ay az aA aB aC aD aE aF aG aH aI aJ);obtain⟨kq,aP,rfl,HA,al,B,HB⟩:=hcut;cases kq with
  |zero=>exact absurd HA.out (by simp[zaf.j0])
  |succ ds=>
   have H:=HA.out;clear HA;simp only[zaf.j0] at H;by_cases aW:aP=true
   (·subst aW;replace H:=hT H;obtain⟨rfl,rfl⟩:=o2 H;go_wp2;go_ret2;exact⟨ez,bz⟩);replace aW:=Bool.eq_false_iff.mpr aW;subst aW;replace H:=hF H;have bh:=zaa.mk H;clear H;(go_upto_block 0 with(fail));go_cut [13] (λlj wc=> ∃(kq:Nat) (U:ByteArray),lj= .string U/\zaa (zaf.j2 kq a0 a1 ab ac ar ah U J K ae M O E I A=some (r1,r2))/\zaa (kq<=ds)/\zaa (wc.heap[D]? =some (.cells #[.bool J,.bool K,.bool ae,.bool M,.bool O,.int .i64 E,.int .i64 I,.int .i32 A] 26 (0,0)))/\zaa (Below w.heap.size w wc));case first=>
    have H:=bh.out;clear bh;have bi:=zaa.mk H;clear H;(go_upto_region 6 with(fail));go_cut [33] (λlk wc=> ∃(kq:Nat) (aN:Bool),lk= .bool aN/\zaa (zaf.j1 kq a0 a1 ab ac ar ah (⟨#[]⟩:ByteArray) aN J K ae M O E I A=some (r1,r2))/\zaa (kq<=ds)/\zaa (wc.heap[D]? =some (.cells #[.bool J,.bool K,.bool ae,.bool M,.bool O,.int .i64 E,.int .i64 I,.int .i32 A] 26 (0,0)))/\zaa (Below w.heap.size w wc));case first=>
     have H:=bi.out;clear bi;by_cases br:bf=true
     (·subst br;replace H:=hT H;have H':=zaa.mk H;clear H;go_wp2;go_meet;case rel=>exact⟨_,((ar !=2)),rz,H',⟨by have:=al.out;first|omega|exact Nat.le_refl _⟩,⟨bk⟩,⟨bz⟩⟩);replace br:=Bool.eq_false_iff.mpr br;subst br;replace H:=hF H;have H':=zaa.mk H;clear H;go_wp2;go_meet;case rel=>exact⟨_,(false),rz,H',⟨by have:=al.out;first|omega|exact Nat.le_refl _⟩,⟨bk⟩,⟨bz⟩⟩
    case rest=>
     clear bi;(try clear aW);(try clear au av aw ax ay az aA aB aC aD aE aF aG aH aI aJ);obtain⟨kq,aN,rfl,HA,aX,B,HB⟩:=hcut;cases kq with
     |zero=>exact absurd HA.out (by simp[zaf.j1])
     |succ l1=>
      have H:=HA.out;clear HA;simp only[zaf.j1] at H;by_cases bu:aN=true
      (·subst bu;replace H:=hT H;have H':=zaa.mk H;clear H;go_wp2;go_meet;case rel=>exact⟨_,((⟨#[45]⟩:ByteArray)),rz,H',⟨by have:=al.out;have:=aX.out;first|omega|exact Nat.le_refl _⟩,⟨bk⟩,⟨bz⟩⟩);replace bu:=Bool.eq_false_iff.mpr bu;subst bu;replace H:=hF H;by_cases bv:J=true
      (·subst bv;replace H:=hT H;have H':=zaa.mk H;clear H;obtain⟨dt,du,dv,dx,dy,dA,dB,dC,dD,dE,dF,dG,dH,dI,dJ,dK⟩:=cz8 B;go_wp2;go_meet;case rel=>exact⟨_,((⟨#[43]⟩:ByteArray)),rz,H',⟨by have:=al.out;have:=aX.out;first|omega|exact Nat.le_refl _⟩,⟨bk⟩,⟨bz⟩⟩);replace bv:=Bool.eq_false_iff.mpr bv;subst bv;replace H:=hF H;by_cases bw:M=true
      (·subst bw;replace H:=hT H;have H':=zaa.mk H;clear H;obtain⟨dL,dM,dN,dO,dP,dQ,dR,dS,dT,dU,dV,dW,dY,dZ,d0,d5⟩:=cz8 B;go_wp2;go_meet;case rel=>exact⟨_,((⟨#[32]⟩:ByteArray)),rz,H',⟨by have:=al.out;have:=aX.out;first|omega|exact Nat.le_refl _⟩,⟨bk⟩,⟨bz⟩⟩);replace bw:=Bool.eq_false_iff.mpr bw;subst bw;replace H:=hF H;by_cases bj:ar=1
      (·replace H:=hE H bj;obtain⟨bR,bS⟩:=eT bj;clear bj;have H':=zaa.mk H;clear H;obtain⟨d6,d9,ea,eb,ec,ed,ee,ef,eg,eh,ei,ej,ek,em,en,eo⟩:=cz8 B;go_wp2;go_meet;case rel=>exact⟨_,((⟨#[43]⟩:ByteArray)),rz,H',⟨by have:=al.out;have:=aX.out;first|omega|exact Nat.le_refl _⟩,⟨bk⟩,⟨bz⟩⟩);replace H:=hN H bj;obtain⟨bR,bS⟩:=eF bj;have H':=zaa.mk H;clear H;obtain⟨ep,eq,er,et,eu,ev,ew,ey,eA,eB,eC,eD,eE,eG,eH,eI⟩:=cz8 B;go_wp2;go_meet;case rel=>exact⟨_,((⟨#[]⟩:ByteArray)),rz,H',⟨by have:=al.out;have:=aX.out;first|omega|exact Nat.le_refl _⟩,⟨bk⟩,⟨bz⟩⟩
   case rest=>
    clear bh;(try clear aW);(try clear au av aw ax ay az aA aB aC aD aE aF aG aH aI aJ);obtain⟨kq,U,rfl,HA,ak,B,HB⟩:=hcut;cases kq with
    |zero=>exact absurd HA.out (by simp[zaf.j2])
    |succ aK=>
     have H:=HA.out;clear HA;simp only[zaf.j2] at H;have bl:=zaa.mk H;clear H;(go_upto_block 1 with(fail));go_cut [14] (λlm wc=> ∃(kq:Nat) (ag:ByteArray) (ad:Bool),lm= .string ag/\zaa (zaf.j3 kq U ag J K ae M ad E I A=some (r1,r2))/\zaa (kq<=aK)/\zaa (wc.heap[D]? =some (.cells #[.bool J,.bool K,.bool ae,.bool M,.bool ad,.int .i64 E,.int .i64 I,.int .i32 A] 26 (0,0)))/\zaa (Below w.heap.size w wc));case first=>
      have H:=bl.out;clear bl;by_cases bm:ar=2
      (·replace H:=hE H bm;obtain⟨a4,a5⟩:=eT bm;clear bm;(try first|rw[a4]|rw[a5]);have H':=zaa.mk H;clear H;obtain⟨eJ,eK,eL,eM,eN,eO,eP,eQ,eR,eS,eU,eV,eW,eX,eY,eZ⟩:=cz8 B;go_wp2;go_meet;case rel=>exact⟨_,((⟨#[78,97,78]⟩:ByteArray)),(false),rz,H',⟨by have:=al.out;have:=ak.out;first|omega|exact Nat.le_refl _⟩,⟨bk⟩,⟨bz⟩⟩);replace H:=hN H bm;obtain⟨a4,a5⟩:=eF bm;(try first|rw[a4]|rw[a5]);by_cases bn:ar=1
      (·replace H:=hE H bn;obtain⟨bU,bV⟩:=eT bn;clear bn;have H':=zaa.mk H;clear H;obtain⟨e0,e1,e2,e3,e4,e5,e6,e7,e8,e9,fa,fb,fc,fe,fg,fh⟩:=cz8 B;go_wp2;go_meet;case rel=>exact⟨_,((⟨#[73,110,102]⟩:ByteArray)),(false),rz,H',⟨by have:=al.out;have:=ak.out;first|omega|exact Nat.le_refl _⟩,⟨bk⟩,⟨bz⟩⟩);replace H:=hN H bn;obtain⟨bU,bV⟩:=eF bn;obtain⟨a9,a6⟩:=ex (mn I 1000);(first|rw[a6] at H|simp only[a6] at H);have k3:(if 1000<I then 1000 else I)=a9:=a6;obtain⟨af,a7⟩:=ex (mx (-1) (a9));(first|rw[a7] at H|simp only[a7] at H);have k4:(if(-1)<(a9) then(a9) else(-1))=af:=a7;by_cases bA:ae=true
      ·subst bA;replace H:=hT H;by_cases fi:ah=1
       (·subst fi;replace H:=hE H rfl;(try simp only[fnW_1]);replace H:=bs H;obtain⟨bB,ln,H⟩:=H;have H':=zaa.mk H;clear H;obtain⟨fj,fk,fl,fm,fo,fp,fq,fs,ft,fu,fv,fw,fx,fy,fz,fA⟩:=cz8 B;go_wp2_with (first|((with_reducible refine zai (N:=15) rfl ?_);refine zah rfl (N:=15) rfl (cs:=#[.int .u64 0,.int .i64 0,.int .u64 0,.int .i64 0,.int .i64 0,.bool false,.int .i32 0]) (t:=52) gz ?_;intro an hg l6 hbox hb;have aQ:=gN bz hg;have aR:=gN bz hg;have X:=lN (g:=D) (cs:=#[.bool J,.bool K,.bool true,.bool M,.bool O,.int .i64 E,.int .i64 I,.int .i32 A]) hg bk;have Y:=rN (g:=D) (cs:=#[.bool J,.bool K,.bool true,.bool M,.bool O,.int .i64 E,.int .i64 I,.int .i32 A]) hg bk;replace B:=kN (g:=D) (cs:=#[.bool J,.bool K,.bool true,.bool M,.bool O,.int .i64 E,.int .i64 I,.int .i32 A]) hb bk;have ai:=zaa.mk hbox;replace HB:=bN bz hb;clear hb hbox hg;have lo:=Y.out;have lp:=X.out;obtain⟨fC,fD,fF,fG,fH,fI,fJ,fK,fL,fN,fO,fP,fQ,fR⟩:=cz7 ai)|(go_at_call 39;(with_reducible refine(zan.calls aK a0 a1 ab ac af (A !=118) A bB _ ln.out).mono ?_);rintro e l7 ⟨rfl,hb⟩;replace B:=kN (g:=D) (cs:=#[.bool J,.bool K,.bool true,.bool M,.bool O,.int .i64 E,.int .i64 I,.int .i32 A]) hb bk;replace ai:=kN (g:=an) (cs:=#[.int .u64 a0,.int .i64 a1,.int .u64 ab,.int .i64 ac,.int .i64 af,.bool (A !=118),.int .i32 A]) hb bk;replace HB:=bN bz hb;(try clear hb);(try clear aS);(try clear hk);(try clear hi)));go_meet;case rel=>exact⟨_,(bB),(O),rz,H',⟨by have:=al.out;have:=ak.out;first|omega|exact Nat.le_refl _⟩,⟨bk⟩,⟨bz⟩⟩);replace H:=hN H fi;by_cases fS:ah=2
       (·subst fS;replace H:=hE H rfl;(try simp only[fnW_2]);replace H:=bs H;obtain⟨bC,lq,H⟩:=H;have H':=zaa.mk H;clear H;obtain⟨fT,fU,fV,fX,fY,fZ,f0,f2,f3,f4,f5,f6,f7,f8,f9,ga⟩:=cz8 B;go_wp2_with (first|((with_reducible refine zai (N:=15) rfl ?_);refine zah rfl (N:=15) rfl (cs:=#[.int .u64 0,.int .i64 0,.int .u64 0,.int .i64 0,.int .i64 0,.bool false,.int .i32 0]) (t:=52) gz ?_;intro an hg l8 hbox hb;have aQ:=gN bz hg;have aR:=gN bz hg;have X:=lN (g:=D) (cs:=#[.bool J,.bool K,.bool true,.bool M,.bool O,.int .i64 E,.int .i64 I,.int .i32 A]) hg bk;have Y:=rN (g:=D) (cs:=#[.bool J,.bool K,.bool true,.bool M,.bool O,.int .i64 E,.int .i64 I,.int .i32 A]) hg bk;replace B:=kN (g:=D) (cs:=#[.bool J,.bool K,.bool true,.bool M,.bool O,.int .i64 E,.int .i64 I,.int .i32 A]) hb bk;have ai:=zaa.mk hbox;replace HB:=bN bz hb;clear hb hbox hg;have lr:=Y.out;have lu:=X.out;obtain⟨gb,ge,gf,gg,gh,gi,gj,gk,gl,gm,gn,gp,gq,gr⟩:=cz7 ai)|(go_at_call 40;(with_reducible refine(zam.calls aK a0 a1 ab ac af (A !=118) A bC _ lq.out).mono ?_);rintro e l9 ⟨rfl,hb⟩;replace B:=kN (g:=D) (cs:=#[.bool J,.bool K,.bool true,.bool M,.bool O,.int .i64 E,.int .i64 I,.int .i32 A]) hb bk;replace ai:=kN (g:=an) (cs:=#[.int .u64 a0,.int .i64 a1,.int .u64 ab,.int .i64 ac,.int .i64 af,.bool (A !=118),.int .i32 A]) hb bk;replace HB:=bN bz hb;(try clear hb);(try clear aS);(try clear hk);(try clear hi)));go_meet;case rel=>exact⟨_,(bC),(O),rz,H',⟨by have:=al.out;have:=ak.out;first|omega|exact Nat.le_refl _⟩,⟨bk⟩,⟨bz⟩⟩);replace H:=hN H fS;by_cases gs:ah=3
       (·subst gs;replace H:=hE H rfl;(try simp only[fnW_3]);replace H:=bs H;obtain⟨bD,lw,H⟩:=H;have H':=zaa.mk H;clear H;obtain⟨gt,gu,gv,gw,gx,gy,gA,gC,gD,gE,gF,gH,gI,gJ,gK,gL⟩:=cz8 B;go_wp2_with (first|((with_reducible refine zai (N:=15) rfl ?_);refine zah rfl (N:=15) rfl (cs:=#[.int .u64 0,.int .i64 0,.int .u64 0,.int .i64 0,.int .i64 0,.bool false,.int .i32 0]) (t:=52) gz ?_;intro an hg ma hbox hb;have aQ:=gN bz hg;have aR:=gN bz hg;have X:=lN (g:=D) (cs:=#[.bool J,.bool K,.bool true,.bool M,.bool O,.int .i64 E,.int .i64 I,.int .i32 A]) hg bk;have Y:=rN (g:=D) (cs:=#[.bool J,.bool K,.bool true,.bool M,.bool O,.int .i64 E,.int .i64 I,.int .i32 A]) hg bk;replace B:=kN (g:=D) (cs:=#[.bool J,.bool K,.bool true,.bool M,.bool O,.int .i64 E,.int .i64 I,.int .i32 A]) hb bk;have ai:=zaa.mk hbox;replace HB:=bN bz hb;clear hb hbox hg;have lx:=Y.out;have ly:=X.out;obtain⟨gM,gO,gP,gQ,gR,gS,gT,gU,gV,gW,gX,gY,gZ,g0⟩:=cz7 ai)|(go_at_call 41;(with_reducible refine(zag.calls aK a0 a1 ab ac af (A !=118) A bD _ lw.out).mono ?_);rintro e mb ⟨rfl,hb⟩;replace B:=kN (g:=D) (cs:=#[.bool J,.bool K,.bool true,.bool M,.bool O,.int .i64 E,.int .i64 I,.int .i32 A]) hb bk;replace ai:=kN (g:=an) (cs:=#[.int .u64 a0,.int .i64 a1,.int .u64 ab,.int .i64 ac,.int .i64 af,.bool (A !=118),.int .i32 A]) hb bk;replace HB:=bN bz hb;(try clear hb);(try clear aS);(try clear hk);(try clear hi)));go_meet;case rel=>exact⟨_,(bD),(O),rz,H',⟨by have:=al.out;have:=ak.out;first|omega|exact Nat.le_refl _⟩,⟨bk⟩,⟨bz⟩⟩);replace H:=hN H gs;by_cases g1:ah=4
       (·subst g1;replace H:=hE H rfl;(try simp only[fnW_4]);replace H:=bs H;obtain⟨bE,lA,H⟩:=H;have H':=zaa.mk H;clear H;obtain⟨g2,g3,g4,g5,g6,g7,g8,g9,ha,hc,he,hf,hh,hj,hl,hm⟩:=cz8 B;go_wp2_with (first|((with_reducible refine zai (N:=15) rfl ?_);refine zah rfl (N:=15) rfl (cs:=#[.int .u64 0,.int .i64 0,.int .u64 0,.int .i64 0,.int .i64 0,.bool false,.int .i32 0]) (t:=52) gz ?_;intro an hg mc hbox hb;have aQ:=gN bz hg;have aR:=gN bz hg;have X:=lN (g:=D) (cs:=#[.bool J,.bool K,.bool true,.bool M,.bool O,.int .i64 E,.int .i64 I,.int .i32 A]) hg bk;have Y:=rN (g:=D) (cs:=#[.bool J,.bool K,.bool true,.bool M,.bool O,.int .i64 E,.int .i64 I,.int .i32 A]) hg bk;replace B:=kN (g:=D) (cs:=#[.bool J,.bool K,.bool true,.bool M,.bool O,.int .i64 E,.int .i64 I,.int .i32 A]) hb bk;have ai:=zaa.mk hbox;replace HB:=bN bz hb;clear hb hbox hg;have lB:=Y.out;have lC:=X.out;obtain⟨hn,ho,hp,hq,hr,hs,ht,hu,hv,hw,hx,hy,hz,hA⟩:=cz7 ai)|(go_at_call 42;(with_reducible refine(zaE.calls a0 a1 ab ac af (A !=118) A bE _ lA.out).mono ?_);rintro e md ⟨rfl,hb⟩;replace B:=kN (g:=D) (cs:=#[.bool J,.bool K,.bool true,.bool M,.bool O,.int .i64 E,.int .i64 I,.int .i32 A]) hb bk;replace ai:=kN (g:=an) (cs:=#[.int .u64 a0,.int .i64 a1,.int .u64 ab,.int .i64 ac,.int .i64 af,.bool (A !=118),.int .i32 A]) hb bk;replace HB:=bN bz hb;(try clear hb);(try clear aS);(try clear hk);(try clear hi)));go_meet;case rel=>exact⟨_,(bE),(O),rz,H',⟨by have:=al.out;have:=ak.out;first|omega|exact Nat.le_refl _⟩,⟨bk⟩,⟨bz⟩⟩);replace H:=hN H g1;by_cases hB:ah=5
       (·subst hB;replace H:=hE H rfl;(try simp only[fnW_5]);replace H:=bs H;obtain⟨bG,lD,H⟩:=H;have H':=zaa.mk H;clear H;obtain⟨hC,hD,hH,hI,hJ,hK,hL,hM,hO,hP,hQ,hR,hS,hU,hV,hW⟩:=cz8 B;go_wp2_with (first|((with_reducible refine zai (N:=15) rfl ?_);refine zah rfl (N:=15) rfl (cs:=#[.int .u64 0,.int .i64 0,.int .u64 0,.int .i64 0,.int .i64 0,.bool false,.int .i32 0]) (t:=52) gz ?_;intro an hg me hbox hb;have aQ:=gN bz hg;have aR:=gN bz hg;have X:=lN (g:=D) (cs:=#[.bool J,.bool K,.bool true,.bool M,.bool O,.int .i64 E,.int .i64 I,.int .i32 A]) hg bk;have Y:=rN (g:=D) (cs:=#[.bool J,.bool K,.bool true,.bool M,.bool O,.int .i64 E,.int .i64 I,.int .i32 A]) hg bk;replace B:=kN (g:=D) (cs:=#[.bool J,.bool K,.bool true,.bool M,.bool O,.int .i64 E,.int .i64 I,.int .i32 A]) hb bk;have ai:=zaa.mk hbox;replace HB:=bN bz hb;clear hb hbox hg;have lE:=Y.out;have lF:=X.out;obtain⟨hX,hY,hZ,h0,h1,h2,h3,h4,h5,h6,h7,h8,h9,ia⟩:=cz7 ai)|(go_at_call 43;(with_reducible refine(zad.calls aK a0 a1 ab ac af (A !=118) A bG _ lD.out).mono ?_);rintro e mf ⟨rfl,hb⟩;replace B:=kN (g:=D) (cs:=#[.bool J,.bool K,.bool true,.bool M,.bool O,.int .i64 E,.int .i64 I,.int .i32 A]) hb bk;replace ai:=kN (g:=an) (cs:=#[.int .u64 a0,.int .i64 a1,.int .u64 ab,.int .i64 ac,.int .i64 af,.bool (A !=118),.int .i32 A]) hb bk;replace HB:=bN bz hb;(try clear hb);(try clear aS);(try clear hk);(try clear hi)));go_meet;case rel=>exact⟨_,(bG),(O),rz,H',⟨by have:=al.out;have:=ak.out;first|omega|exact Nat.le_refl _⟩,⟨bk⟩,⟨bz⟩⟩);replace H:=hN H hB;exact absurd H (by simp)
      replace bA:=Bool.eq_false_iff.mpr bA;subst bA;replace H:=hF H;by_cases ib:ah=1
      (·subst ib;replace H:=hE H rfl;(try simp only[fnW_1]);replace H:=bs H;obtain⟨bH,lG,H⟩:=H;have H':=zaa.mk H;clear H;obtain⟨ic,id,ie,ig,ih,ij,ik,il,im,io,ip,iq,ir,it,iu,iv⟩:=cz8 B;go_wp2_with (first|((with_reducible refine zai (N:=15) rfl ?_);refine zah rfl (N:=15) rfl (cs:=#[.int .u64 0,.int .i64 0,.int .u64 0,.int .i64 0,.int .i64 0,.bool false,.int .i32 0]) (t:=52) gz ?_;intro ao hg mg hbox hb;have aT:=gN bz hg;have aU:=gN bz hg;have Z:=lN (g:=D) (cs:=#[.bool J,.bool K,.bool false,.bool M,.bool O,.int .i64 E,.int .i64 I,.int .i32 A]) hg bk;have aa:=rN (g:=D) (cs:=#[.bool J,.bool K,.bool false,.bool M,.bool O,.int .i64 E,.int .i64 I,.int .i32 A]) hg bk;replace B:=kN (g:=D) (cs:=#[.bool J,.bool K,.bool false,.bool M,.bool O,.int .i64 E,.int .i64 I,.int .i32 A]) hb bk;have aj:=zaa.mk hbox;replace HB:=bN bz hb;clear hb hbox hg;have lH:=aa.out;have lI:=Z.out;obtain⟨iw,ix,iy,iz,iA,iB,iC,iD,iE,iF,iG,iH,iI,iJ⟩:=cz7 aj)|(go_at_call 39;(with_reducible refine(zan.calls aK a0 a1 ab ac af false A bH _ lG.out).mono ?_);rintro e mh ⟨rfl,hb⟩;replace B:=kN (g:=D) (cs:=#[.bool J,.bool K,.bool false,.bool M,.bool O,.int .i64 E,.int .i64 I,.int .i32 A]) hb bk;replace aj:=kN (g:=ao) (cs:=#[.int .u64 a0,.int .i64 a1,.int .u64 ab,.int .i64 ac,.int .i64 af,.bool false,.int .i32 A]) hb bk;replace HB:=bN bz hb;(try clear hb);(try clear aS);(try clear hk);(try clear hi)));go_meet;case rel=>exact⟨_,(bH),(O),rz,H',⟨by have:=al.out;have:=ak.out;first|omega|exact Nat.le_refl _⟩,⟨bk⟩,⟨bz⟩⟩);replace H:=hN H ib;by_cases iK:ah=2
      (·subst iK;replace H:=hE H rfl;(try simp only[fnW_2]);replace H:=bs H;obtain⟨bI,lJ,H⟩:=H;have H':=zaa.mk H;clear H;obtain⟨iL,iM,iN,iO,iP,iQ,iR,iS,iT,iU,iV,iW,iX,iY,iZ,i0⟩:=cz8 B;go_wp2_with (first|((with_reducible refine zai (N:=15) rfl ?_);refine zah rfl (N:=15) rfl (cs:=#[.int .u64 0,.int .i64 0,.int .u64 0,.int .i64 0,.int .i64 0,.bool false,.int .i32 0]) (t:=52) gz ?_;intro ao hg mi hbox hb;have aT:=gN bz hg;have aU:=gN bz hg;have Z:=lN (g:=D) (cs:=#[.bool J,.bool K,.bool false,.bool M,.bool O,.int .i64 E,.int .i64 I,.int .i32 A]) hg bk;have aa:=rN (g:=D) (cs:=#[.bool J,.bool K,.bool false,.bool M,.bool O,.int .i64 E,.int .i64 I,.int .i32 A]) hg bk;replace B:=kN (g:=D) (cs:=#[.bool J,.bool K,.bool false,.bool M,.bool O,.int .i64 E,.int .i64 I,.int .i32 A]) hb bk;have aj:=zaa.mk hbox;replace HB:=bN bz hb;clear hb hbox hg;have lK:=aa.out;have lL:=Z.out;obtain⟨i1,i3,i4,i5,i6,i7,i9,ja,jb,jc,jd,je,jf,jg⟩:=cz7 aj)|(go_at_call 40;(with_reducible refine(zam.calls aK a0 a1 ab ac af false A bI _ lJ.out).mono ?_);rintro e mj ⟨rfl,hb⟩;replace B:=kN (g:=D) (cs:=#[.bool J,.bool K,.bool false,.bool M,.bool O,.int .i64 E,.int .i64 I,.int .i32 A]) hb bk;replace aj:=kN (g:=ao) (cs:=#[.int .u64 a0,.int .i64 a1,.int .u64 ab,.int .i64 ac,.int .i64 af,.bool false,.int .i32 A]) hb bk;replace HB:=bN bz hb;(try clear hb);(try clear aS);(try clear hk);(try clear hi)));go_meet;case rel=>exact⟨_,(bI),(O),rz,H',⟨by have:=al.out;have:=ak.out;first|omega|exact Nat.le_refl _⟩,⟨bk⟩,⟨bz⟩⟩);replace H:=hN H iK;by_cases jh:ah=3
      (·subst jh;replace H:=hE H rfl;(try simp only[fnW_3]);replace H:=bs H;obtain⟨bJ,lM,H⟩:=H;have H':=zaa.mk H;clear H;obtain⟨ji,jj,jk,jl,jm,jn,jo,jp,jq,jr,js,jt,ju,jv,jw,jy⟩:=cz8 B;go_wp2_with (first|((with_reducible refine zai (N:=15) rfl ?_);refine zah rfl (N:=15) rfl (cs:=#[.int .u64 0,.int .i64 0,.int .u64 0,.int .i64 0,.int .i64 0,.bool false,.int .i32 0]) (t:=52) gz ?_;intro ao hg ml hbox hb;have aT:=gN bz hg;have aU:=gN bz hg;have Z:=lN (g:=D) (cs:=#[.bool J,.bool K,.bool false,.bool M,.bool O,.int .i64 E,.int .i64 I,.int .i32 A]) hg bk;have aa:=rN (g:=D) (cs:=#[.bool J,.bool K,.bool false,.bool M,.bool O,.int .i64 E,.int .i64 I,.int .i32 A]) hg bk;replace B:=kN (g:=D) (cs:=#[.bool J,.bool K,.bool false,.bool M,.bool O,.int .i64 E,.int .i64 I,.int .i32 A]) hb bk;have aj:=zaa.mk hbox;replace HB:=bN bz hb;clear hb hbox hg;have lO:=aa.out;have lP:=Z.out;obtain⟨jz,jA,jB,jC,jD,jE,jF,jG,jH,jI,jJ,jK,jL,jM⟩:=cz7 aj)|(go_at_call 41;(with_reducible refine(zag.calls aK a0 a1 ab ac af false A bJ _ lM.out).mono ?_);rintro e mm ⟨rfl,hb⟩;replace B:=kN (g:=D) (cs:=#[.bool J,.bool K,.bool false,.bool M,.bool O,.int .i64 E,.int .i64 I,.int .i32 A]) hb bk;replace aj:=kN (g:=ao) (cs:=#[.int .u64 a0,.int .i64 a1,.int .u64 ab,.int .i64 ac,.int .i64 af,.bool false,.int .i32 A]) hb bk;replace HB:=bN bz hb;(try clear hb);(try clear aS);(try clear hk);(try clear hi)));go_meet;case rel=>exact⟨_,(bJ),(O),rz,H',⟨by have:=al.out;have:=ak.out;first|omega|exact Nat.le_refl _⟩,⟨bk⟩,⟨bz⟩⟩);replace H:=hN H jh;by_cases jN:ah=4
      (·subst jN;replace H:=hE H rfl;(try simp only[fnW_4]);replace H:=bs H;obtain⟨bK,lQ,H⟩:=H;have H':=zaa.mk H;clear H;obtain⟨jO,jP,jQ,jR,jS,jT,jU,jV,jW,jX,jY,jZ,j5,j6,j7,j8⟩:=cz8 B;go_wp2_with (first|((with_reducible refine zai (N:=15) rfl ?_);refine zah rfl (N:=15) rfl (cs:=#[.int .u64 0,.int .i64 0,.int .u64 0,.int .i64 0,.int .i64 0,.bool false,.int .i32 0]) (t:=52) gz ?_;intro ao hg mo hbox hb;have aT:=gN bz hg;have aU:=gN bz hg;have Z:=lN (g:=D) (cs:=#[.bool J,.bool K,.bool false,.bool M,.bool O,.int .i64 E,.int .i64 I,.int .i32 A]) hg bk;have aa:=rN (g:=D) (cs:=#[.bool J,.bool K,.bool false,.bool M,.bool O,.int .i64 E,.int .i64 I,.int .i32 A]) hg bk;replace B:=kN (g:=D) (cs:=#[.bool J,.bool K,.bool false,.bool M,.bool O,.int .i64 E,.int .i64 I,.int .i32 A]) hb bk;have aj:=zaa.mk hbox;replace HB:=bN bz hb;clear hb hbox hg;have lR:=aa.out;have lS:=Z.out;obtain⟨j9,ka,kb,kc,kf,kg,kh,ki,kj,kk,kl,km,kn,ko⟩:=cz7 aj)|(go_at_call 42;(with_reducible refine(zaE.calls a0 a1 ab ac af false A bK _ lQ.out).mono ?_);rintro e mp ⟨rfl,hb⟩;replace B:=kN (g:=D) (cs:=#[.bool J,.bool K,.bool false,.bool M,.bool O,.int .i64 E,.int .i64 I,.int .i32 A]) hb bk;replace aj:=kN (g:=ao) (cs:=#[.int .u64 a0,.int .i64 a1,.int .u64 ab,.int .i64 ac,.int .i64 af,.bool false,.int .i32 A]) hb bk;replace HB:=bN bz hb;(try clear hb);(try clear aS);(try clear hk);(try clear hi)));go_meet;case rel=>exact⟨_,(bK),(O),rz,H',⟨by have:=al.out;have:=ak.out;first|omega|exact Nat.le_refl _⟩,⟨bk⟩,⟨bz⟩⟩);replace H:=hN H jN;by_cases kp:ah=5
      (·subst kp;replace H:=hE H rfl;(try simp only[fnW_5]);replace H:=bs H;obtain⟨bL,lT,H⟩:=H;have H':=zaa.mk H;clear H;obtain⟨kr,kt,ku,kv,kw,kx,ky,kz,kA,kB,kC,kD,kE,kF,kG,kH⟩:=cz8 B;go_wp2_with (first|((with_reducible refine zai (N:=15) rfl ?_);refine zah rfl (N:=15) rfl (cs:=#[.int .u64 0,.int .i64 0,.int .u64 0,.int .i64 0,.int .i64 0,.bool false,.int .i32 0]) (t:=52) gz ?_;intro ao hg mq hbox hb;have aT:=gN bz hg;have aU:=gN bz hg;have Z:=lN (g:=D) (cs:=#[.bool J,.bool K,.bool false,.bool M,.bool O,.int .i64 E,.int .i64 I,.int .i32 A]) hg bk;have aa:=rN (g:=D) (cs:=#[.bool J,.bool K,.bool false,.bool M,.bool O,.int .i64 E,.int .i64 I,.int .i32 A]) hg bk;replace B:=kN (g:=D) (cs:=#[.bool J,.bool K,.bool false,.bool M,.bool O,.int .i64 E,.int .i64 I,.int .i32 A]) hb bk;have aj:=zaa.mk hbox;replace HB:=bN bz hb;clear hb hbox hg;have lU:=aa.out;have lV:=Z.out;obtain⟨kI,kJ,kK,kL,kM,kO,kP,kQ,kR,kS,kT,kU,kV,kW⟩:=cz7 aj)|(go_at_call 43;(with_reducible refine(zad.calls aK a0 a1 ab ac af false A bL _ lT.out).mono ?_);rintro e l2 ⟨rfl,hb⟩;replace B:=kN (g:=D) (cs:=#[.bool J,.bool K,.bool false,.bool M,.bool O,.int .i64 E,.int .i64 I,.int .i32 A]) hb bk;replace aj:=kN (g:=ao) (cs:=#[.int .u64 a0,.int .i64 a1,.int .u64 ab,.int .i64 ac,.int .i64 af,.bool false,.int .i32 A]) hb bk;replace HB:=bN bz hb;(try clear hb);(try clear aS);(try clear hk);(try clear hi)));go_meet;case rel=>exact⟨_,(bL),(O),rz,H',⟨by have:=al.out;have:=ak.out;first|omega|exact Nat.le_refl _⟩,⟨bk⟩,⟨bz⟩⟩);replace H:=hN H kp;exact absurd H (by simp)
     case rest=>
      clear bl;(try clear aW);(try clear au av aw ax ay az aA aB aC aD aE aF aG aH aI aJ);obtain⟨kq,ag,ad,rfl,HA,bM,B,HB⟩:=hcut;cases kq with
      |zero=>exact absurd HA.out (by simp[zaf.j3])
      |succ kX=>
       have H:=HA.out;clear HA;simp only[zaf.j3] at H;have a8:=zaa.mk H;clear H;(go_upto_region 22 with(fail));go_cut [82] (λlW wc=> ∃(kq:Nat) (aL:Bool),lW= .bool aL/\zaa (zaf.j4 kq U ag aL J K ae M ad E I A=some (r1,r2))/\zaa (kq<=kX)/\zaa (wc.heap[D]? =some (.cells #[.bool J,.bool K,.bool ae,.bool M,.bool ad,.int .i64 E,.int .i64 I,.int .i32 A] 26 (0,0)))/\zaa (Below w.heap.size w wc));case first=>
        have H:=a8.out;clear a8;by_cases ba:ad=true
        (·subst ba;replace H:=hT H;have H':=zaa.mk H;clear H;obtain⟨bW,bX,bY,bZ,b0,b1,b2,b3,b4,b5,b6,b7,b8,ca,cb,cc⟩:=cz8 B;go_wp2;go_meet;case rel=>exact⟨_,(!K),rz,H',⟨by have:=al.out;have:=ak.out;have:=bM.out;first|omega|exact Nat.le_refl _⟩,⟨bk⟩,⟨bz⟩⟩);replace ba:=Bool.eq_false_iff.mpr ba;subst ba;replace H:=hF H;have H':=zaa.mk H;clear H;obtain⟨cd,ce,cf,cg,ci,cj,ck,cm,cn,co,cp,cq,cr,ct,cu,cv⟩:=cz8 B;go_wp2;go_meet;case rel=>exact⟨_,(false),rz,H',⟨by have:=al.out;have:=ak.out;have:=bM.out;first|omega|exact Nat.le_refl _⟩,⟨bk⟩,⟨bz⟩⟩
       case rest=>
        clear a8;(try clear aW);(try clear au av aw ax ay az aA aB aC aD aE aF aG aH aI aJ);obtain⟨kq,aL,rfl,HA,lX,B,HB⟩:=hcut;cases kq with
        |zero=>exact absurd HA.out (by simp[zaf.j4])
        |succ lY=>
         have H:=HA.out;clear HA;simp only[zaf.j4] at H;by_cases bb:aL=true;case neg=>
          replace bb:=Bool.eq_false_iff.mpr bb;subst bb;replace H:=hF H;by_cases aZ:U.size+ag.size<=9223372036854775807
          (·replace H:=hE H aZ;have lc:=eq_true aZ;have lf:=decide_eq_true aZ;have lg:=eq_false (Nat.not_lt.2 aZ);replace H:=bs H;obtain⟨k0,k2,H⟩:=H;obtain⟨rfl,rfl⟩:=o2 H;obtain⟨c9,da,db,dc,dd,de,df,dh,di,dj,dk,dl,dm,dn,dp,dq⟩:=cz8 B;go_wp2_with (first|((with_reducible refine zac (f:=27) rfl ?_);refine gB Tryz.func27 (zbi.calls (U++ag) J K ae M false E I A k0 _ k2.out) ?_;intro l5 hb;replace B:=kN (g:=D) (cs:=#[.bool J,.bool K,.bool ae,.bool M,.bool false,.int .i64 E,.int .i64 I,.int .i32 A]) hb bk;replace HB:=bN bz hb;clear hb));go_ret2;exact⟨ez,bz⟩);replace H:=hN H aZ;exact absurd H (by simp)
         subst bb;replace H:=hT H;obtain⟨aV,aO⟩:=ex (mn E 1000);(first|rw[aO] at H|simp only[aO] at H);have bo:(if 1000<E then 1000 else E)=aV:=aO;obtain⟨ap,aM⟩:=ex (mx 0 (aV));(first|rw[aM] at H|simp only[aM] at H);have aY:(if 0<(aV) then(aV) else 0)=ap:=aM;replace H:=bs H;obtain⟨bd,be,H⟩:=H;obtain⟨bp,H⟩:=hG H;have k5:=eq_true bp;have k6:=decide_eq_true bp;have k7:=eq_false (Nat.not_lt.2 bp);obtain⟨bq,H⟩:=hG H;have k8:=eq_true bq;have k9:=decide_eq_true bq;have lb:=eq_false (Nat.not_lt.2 bq);replace H:=bs H;obtain⟨kY,kZ,H⟩:=H;obtain⟨rfl,rfl⟩:=o2 H;obtain⟨cw,cx,cy,cz,cA,cB,cC,cD,cF,cG,cH,cI,cJ,cK,cL,cM⟩:=cz8 B;(have hbl_:0<=ap:=by rw[<-aY];split<;>omega);(have hbh_:ap<=1000:=by rw[<-aY,<-bo];repeat' split<;>omega);(have hs_:U.size+(bd.size+ag.size)<=9223372036854775807:=by have h_:U.size+(bd++ag).size<=9223372036854775807:=of_decide_eq_true (by assumption);rw[ByteArray.size_append] at h_;exact h_);(have bO:wrap64 (ap-(U.size:Int))=ap-(U.size:Int):=by unfold wrap64;omega);(have bP:wrap64 (ap-(U.size:Int)-(ag.size:Int))=ap-(U.size:Int)-(ag.size:Int):=by unfold wrap64;omega);have A_:=be.out;clear be;rw[bO,bP] at A_;clear bO bP;have be:=zaa.mk A_;clear A_;go_wp2_with (first|((with_reducible refine zac (f:=26) rfl ?_);refine gB Tryz.func26 (zbh.calls 48 (ap-(U.size:Int)-(ag.size:Int)) bd _ be.out) ?_ (hargs:=by(try simp only[List.map_toArray,List.map_cons,List.map_nil]);first|done|(simp only[aM];rfl)|rfl|(simp only[List.length_drop,List.length_take];rfl));intro l3 hb;replace B:=kN (g:=D) (cs:=#[.bool J,.bool K,.bool ae,.bool M,.bool ad,.int .i64 E,.int .i64 I,.int .i32 A]) hb bk;replace HB:=bN bz hb;clear hb;obtain⟨cN,cO,cP,cQ,cR,cS,cT,cV,cW,cX,cY,cZ,c5,c6,c7,c8⟩:=cz8 B)|((with_reducible refine zac (f:=27) rfl ?_);refine gB Tryz.func27 (zbi.calls (U++(bd++ag)) J K ae M false E I A kY _ kZ.out) ?_;intro l4 hb;replace B:=kN (g:=D) (cs:=#[.bool J,.bool K,.bool ae,.bool M,.bool false,.int .i64 E,.int .i64 I,.int .i32 A]) hb bk;replace HB:=bN bz hb;clear hb));go_ret2;exact⟨by first|exact ez|(simp only[<-aO,<-aM];exact ez),bz⟩
end
end Go.Proofs.YtilidabdbhaljaaGreatDoor.Fn
end
section
namespace Go.Proofs.YtilidabdbhaljaaGreatDoor.Pure
open Go.RowKit Go.Proofs.YtilidabdbhaljaaGreatDoorW.PrintWords Go.Proofs.YtilidabdbhaljaaGreatDoorW.PrintLast Go.Proofs.YtilidabdbhaljaaGreatDoorW.PrintMore Go.Proofs.YtilidabdbhaljaaGreatDoor.Fn
def codeV(v:Int):Int:=if v=101\/v=69 then 1 else if v=102\/v=70 then 2 else if v=103\/v=71\/v=118 then 3 else if v=98 then 4 else if v=120\/v=88 then 5 else 0
theorem zgR(v:Int)(k:Nat):zaw.f (k+3) v=some (codeV v):=by
 unfold codeV zaw.f;simp only[zaw.j0,zaw.j1,zaw.j2];by_cases d1:v=101
 (·subst d1;rfl);by_cases d2:v=69
 (·subst d2;rfl);by_cases d3:v=102
 (·subst d3;rfl);by_cases d4:v=70
 (·subst d4;rfl);by_cases d5:v=103
 (·subst d5;rfl);by_cases d6:v=71
 (·subst d6;rfl);by_cases d7:v=118
 (·subst d7;rfl);by_cases d8:v=98
 (·subst d8;rfl);by_cases d9:v=120
 (·subst d9;rfl);by_cases A:v=88
 (·subst A;rfl);simp[d1,d2,d3,d4,d5,d6,d7,d8,d9,A]
theorem zgS(v:Int):Ev (λk=>zaw.f k v) (codeV v):=
 ⟨3,λk hk=>by obtain⟨j,rfl⟩: ∃j,k=j+3:=⟨k-3,by omega⟩;exact zgR v j⟩
theorem zhx(v:Int):0<=codeV v/\codeV v<=5:=by
 unfold codeV;(repeat' split);all_goals decide
def signL(neg:Bool)(kind:Int)(plus space:Bool):List UInt8:=if neg=true/\kind≠2 then [45] else if plus then [43] else if space then [32] else if kind=1 then [43] else []
theorem zc8(neg:Bool)(kind:Int)(plus space:Bool):(signL neg kind plus space).length<=1/\Asc (signL neg kind plus space):=by
 unfold signL;(repeat' split);all_goals exact⟨by decide,by decide⟩
def clamp(prec:Int):Int:=max (-1) (min prec 1000)
theorem zfd(prec:Int): -1<=clamp prec/\clamp prec<=1000:=by unfold clamp;omega
def restL(wide:Bool)(p m:Nat)(e prec v:Int)(sharp:Bool):List UInt8:=
  if codeV v=1 then scaledL (sharp&&v !=118) (bigV v) (exD m e) (six prec)
  else if codeV v=2 then fixedL (sharp&&v !=118) (exD m e) (six prec)
  else if codeV v=3 then genOf wide p m e prec (sharp&&v !=118) (bigV v)
  else if codeV v=4 then binL m e
  else hexL m e prec (sharp&&v !=118) (v==88)
def Fit(l:List UInt8):Prop:=Asc l/\l.length<=100000
theorem zfL{l:List UInt8}(h:Asc l)(hl:l.length<=50000)(dot big:Bool)(e:Int):Fit (sciL dot big l e):=by
 refine⟨zhr h dot big e,?_⟩;have h1:=zb0 dot (l.take 1) (l.drop 1);have h2:=zcc (eMark big) (e:=e) (least:=2) (by decide);(have hm:(eMark big).length=1:=by cases big<;>rfl);rw[List.length_take,List.length_drop] at h1;unfold sciL;rw[List.length_append];omega
theorem zd3{l:List UInt8}(h:Asc l)(hl:l.length<=20000)(dot:Bool){p:Int}(hp: -20000<=p/\p<=20000):Fit (aroundL dot l p):=by
 refine⟨zfm h dot p,?_⟩;have hf:=zbj l p;unfold aroundL;split
 ·have h1:=zb0 dot [48] (zsL (-p).toNat++l);rw[List.length_append,zbk] at h1;simp at h1;omega
 ·have h1:=zb0 dot ((fillL l p).take p.toNat) ((fillL l p).drop p.toNat);rw[List.length_take,List.length_drop] at h1;omega
theorem zf7{v:List UInt8×Int}(h:Near v)(dot big:Bool){p:Int}(hp:0<=p/\p<=1000):Fit (scaledL dot big v p):=by
 have hb:=zbN h (p+1);have hf:=zbj (roundN v.1 v.2 (p+1)).1 (p+1);exact zfL (zbE (zc7 h.form (p+1)).1.asc _) (by omega) dot big _
theorem zgT{v:List UInt8×Int}(h:Near v)(dot:Bool){p:Int}(hp:0<=p/\p<=1000):Fit (fixedL dot v p):=by
 have hb:=zbN h (v.2+p);have ha:=(zc7 h.form (v.2+p)).1.asc;unfold fixedL;generalize roundN v.1 v.2 (v.2+p)=d at*
 split
 ·refine⟨zca (by decide) (zcs _) dot,?_⟩;have h1:=zb0 dot [48] (zsL p.toNat);rw[zbk] at h1;simp at h1;omega
 ·split
  ·refine⟨zca (by decide) (zbE ((zcs _).app ha) _) dot,?_⟩;have h1:=zb0 dot [48] (fillL (zsL (-d.2).toNat++d.1) p);have hf:=zbj (zsL (-d.2).toNat++d.1) p;rw[List.length_append,zbk] at hf;simp at h1;omega
  ·have hf:=zbj d.1 (d.2+p);exact zd3 (zbE ha _) (by omega) dot (by omega)
theorem zfM{d:List UInt8×Int}(ha:Asc d.1)(hd:d.1.length<=2000/\ -4000<=d.2/\d.2<=1500)(dot big:Bool){keep top:Int}(hk:1<=keep/\keep<=1000):Fit (genL dot big d keep top):=by
 have hfb:=zb7 (d:=d) hd.2;unfold genL;dsimp only;have hl:Asc (if d.1=[] then [48] else d.1)/\(if d.1=[] then([48]:List UInt8) else d.1).length<=2000:=by
  split
  ·exact⟨by decide,by decide⟩
  ·exact⟨ha,hd.1⟩
 generalize (if d.1=[] then([48]:List UInt8) else d.1)=l at*
 have hm:Asc (if dot=true then fillL l keep else l)/\(if dot=true then fillL l keep else l).length<=3000:=by
  have hf:=zbj l keep;split
  ·exact⟨zbE hl.1 _,by omega⟩
  ·exact⟨hl.1,by omega⟩
 split
 ·exact zfL hm.1 (by omega) dot big _
 ·exact zd3 hm.1 (by omega) dot (by omega)
theorem zeC(wide:Bool){p:Nat}(hp:p<ii wide):InForm (shortL wide p).1 (shortL wide p).2/\(shortL wide p).1.length<=2000/\ -4000<=(shortL wide p).2/\(shortL wide p).2<=1500:=by
 unfold shortL;by_cases c:p=0
 ·rw[if_pos c];exact⟨⟨AllD.nil,λc t e=>(by cases e),rfl,λ_=>rfl⟩,by decide,by decide,by decide⟩
 ·rw[if_neg c];obtain⟨M,h1,h2,h3⟩:=zf6 wide p;have hv:=zei wide hp;have hl:=hv.len;have hlo:=hv.lo;have hhi:=hv.hi;rcases zgQ h2 with⟨_,e⟩|⟨hn,u,hu,e,_⟩
  ·rw[e];exact⟨hv.form,by omega,by omega,by omega⟩
  ·have hc:=zhK hv M hn;have A:u<10^(M+1):=by
    rw[Nat.pow_succ];have:1<=10^M:=Nat.pow_pos (by decide);rcases hu with hu|hu<;>omega
   have hb:=zbS A (cE (exV wide p) M);rw[e];unfold cE at hb ⊢;exact⟨zbc _ _,by omega,by omega,by omega⟩
theorem zgU(wide:Bool){p:Nat}(hp:p<ii wide){m:Nat}(hm:m<18446744073709551616){e:Int}(h: -1200<=e/\e<=1200){prec:Int}(hq: -1<=prec/\prec<=1000)(dot big:Bool):Fit (genOf wide p m e prec dot big):=by
 unfold genOf;split
 ·have:=zeC wide hp;exact zfM this.1.1.asc this.2 dot big (by decide)
 ·have hn:=zcA hm h;have hb:=zbN hn (max prec 1);exact zfM (zc7 hn.form _).1.asc (by omega) dot big (by omega)
theorem zik(m:Nat)(e:Int):Fit (binL m e):=by
 refine⟨(ze1 (by decide) m).app (zc5 (by decide) e 1),?_⟩;have h1:=zd0 10 m;have h2:=zcc ([112]:List UInt8) (e:=e) (least:=1) (by decide);unfold binL;rw[List.length_append];simp at h2;omega
set_option maxRecDepth 100000 in
theorem zgV(b:UInt8)(h:b.toNat<128):(Lib.upperB b).toNat<128:=by
 (have key: ∀n:Fin 256,n.val<128->(Lib.upperB (UInt8.ofNat n.val)).toNat<128:=by decide);have:=key ⟨b.toNat,b.toNat_lt⟩ h;rwa [UInt8.ofNat_toNat] at this
theorem zc9{lead ds:List UInt8}(hl:lead.length<=10/\Asc lead)(hd:ds.length<=2000/\Asc ds)(dot up:Bool)(x:Int):Fit (hexEnd dot up lead ds x):=by
 have h1:=zb0 dot lead ds;have h2:=zcc ([112]:List UInt8) (e:=x) (least:=2) (by decide);have ha:Asc ([48,120]++(ptL dot lead ds++powL [112] x 2)):=Asc.app (by decide) ((zca hl.2 hd.2 dot).app (zc5 (by decide) x 2));(have hlen:([48,120]++(ptL dot lead ds++powL [112] x 2)).length<=100000:=by simp at h2 ⊢;omega);unfold hexEnd;split
 ·refine⟨λc hc=>?_,by unfold Lib.toUpperA;rw[List.length_map];exact hlen⟩;unfold Lib.toUpperA at hc;obtain⟨b,hb,rfl⟩:=List.mem_map.1 hc;exact zgV b (ha b hb)
 ·exact⟨ha,hlen⟩
theorem zdz(dot up:Bool){lead:List UInt8}(hl:lead.length<=10/\Asc lead){part:Nat}(hp:part<=18446744073709551615)(x:Int){prec:Int}(hq: -1<=prec/\prec<=1000):Fit (hexTail dot up lead part x prec):=by
 have hs:=zdM hp;unfold hexTail;split
 ·exact zc9 hl ⟨by have:=zgP (sixL part);omega,zgO (zct _)⟩ dot up x
 ·split
  ·have hf:=zbj (sixL part) prec;exact zc9 hl ⟨by omega,zbE (zct _) _⟩ dot up x
  ·unfold hexMid;dsimp only;refine zc9 hl ?_ dot up _;split
   ·exact⟨by decide,Asc.nil⟩
   ·refine⟨?_,(zct _).take _⟩;rw[List.length_take];omega
theorem zil(m:Nat)(e:Int){prec:Int}(hq: -1<=prec/\prec<=1000)(dot up:Bool):Fit (hexL m e prec dot up):=by
 unfold hexL;split
 ·exact zdz dot up ⟨by decide,by decide⟩ (by decide) _ hq
 ·exact zdz dot up ⟨by decide,by decide⟩ (by omega) _ hq
theorem zgW{prec:Int}(hq: -1<=prec/\prec<=1000):0<=six prec/\six prec<=1000:=by unfold six;split<;>omega
theorem zfe(wide:Bool){p:Nat}(hp:p<ii wide){m:Nat}(hm:m<18446744073709551616){e:Int}(h: -1200<=e/\e<=1200){prec:Int}(hq: -1<=prec/\prec<=1000)(v:Int)(sharp:Bool):Fit (restL wide p m e prec v sharp):=by
 have hn:=zcA hm h;unfold restL;repeat' split
 ·exact zf7 hn _ _ (zgW hq)
 ·exact zgT hn _ (zgW hq)
 ·exact zgU wide hp hm h hq _ _
 ·exact zik m e
 ·exact zil m e hq _ _
def endL(sign rest:List UInt8)(minus zero:Bool)(wid:Int):List UInt8:=
  padL (sign++(if zero&& !minus then List.replicate (max 0 (min wid 1000)-sign.length-rest.length).toNat 48++rest else rest)) minus false wid
theorem zff{sign rest:List UInt8}(hs:sign.length<=1/\Asc sign)(hr:Fit rest)(plus minus sharp space zero:Bool)(wid prec v:Int):
 Ev (λk=>zaf.j3 k (S sign) (S rest) plus minus sharp space zero wid prec v) (S (endL sign rest minus zero wid),true):=by
 have ha:=hr.1;have hl:=hr.2;have key: ∀u:Bool,Ev (λk=>zaf.j4 k (S sign) (S rest) u plus minus sharp space zero wid prec v) (S (padL (sign++(if u then List.replicate (max 0 (min wid 1000)-sign.length-rest.length).toNat 48++rest else rest)) minus false wid),true):=by
  intro u;refine Ev.step (λk=>by simp only[zaf.j4];rfl) ?_;cases u with
  |true=>
   refine Ev.congr (λk=>if_pos rfl) ?_;rw[if_pos rfl,zat,zat,zcJ,zeP,w64 (x:=max 0 (min wid 1000)-(sign.length:Int)) (by omega) (by omega),w64 (by omega) (by omega)];have hf:=zfG 48 (max 0 (min wid 1000)-(sign.length:Int)-(rest.length:Int));rw[show(((48:UInt8).toNat:Nat):Int)=48 from rfl,show(min (max 0 (min wid 1000)-(sign.length:Int)-(rest.length:Int)) 1000).toNat=(max 0 (min wid 1000)-(sign.length:Int)-(rest.length:Int)).toNat by omega] at hf;rw[hf];simp only[Option.bind_some];generalize hz:(max 0 (min wid 1000)-(sign.length:Int)-(rest.length:Int)).toNat=n;(have hn:n<=1000:=by omega);refine Ev.congr (λk=>if_pos (by rw[zat,List.length_replicate];omega)) ?_;rw[zbC];refine Ev.congr (λk=>if_pos (by rw[zat,List.length_append,List.length_replicate];omega)) ?_;rw[zbC,zgH (hs.2.app ((Asc.rep n (by decide)).app ha)) (by rw[List.length_append,List.length_append,List.length_replicate];omega)];exact Ev.now _
  |false=>
   refine Ev.congr (λk=>if_neg (by simp)) ?_;show Ev _ (S (padL (sign++rest) minus false wid),true);refine Ev.congr (λk=>if_pos (by rw[zat,zat];omega)) ?_;rw[zbC,zgH (hs.2.app ha) (by rw[List.length_append];omega)];exact Ev.now _
 refine Ev.step (λk=>by simp only[zaf.j3];rfl) ?_;unfold endL;cases zero with
 |true=>exact Ev.congr (λk=>if_pos rfl) (key (!minus))
 |false=>exact Ev.congr (λk=>if_neg (by simp)) (key false)
def floatS(wide:Bool)(a:Nat)(plus minus sharp space zero:Bool)(wid prec v:Int):ByteArray×Bool:=
  if codeV v=0 then(⟨#[]⟩,false)
  else if bareN wide a<ii wide then(S (endL (signL (a / tt wide%2==1) 0 plus space) (restL wide (bareN wide a) (fM (ff wide) (bareN wide a)) ((fE (ff wide) (bareN wide a):Int)-(ll wide:Int)) (clamp prec) v sharp) minus zero wid),true)
  else if bareN wide a=ii wide then(S (endL (signL (a / tt wide%2==1) 1 plus space) [73,110,102] minus false wid),true)
  else(S (endL (signL (a / tt wide%2==1) 2 plus space) [78,97,78] minus false wid),true)
theorem zfN{R:ByteArray×Bool}(x0 x1 x9 B A D:Int)(neg plus minus sharp space zero:Bool)(wid prec v:Int)
 (h:Ev (λk=>zaf.j2 k x0 x1 x9 B A D (S (signL neg A plus space)) plus minus sharp space zero wid prec v) R) (u:Bool) (hu:u=decide (neg=true/\A≠2)):
 Ev (λk=>zaf.j1 k x0 x1 x9 B A D (⟨#[]⟩:ByteArray) u plus minus sharp space zero wid prec v) R:=by
 unfold signL at h;refine Ev.step (λk=>by simp only[zaf.j1];rfl) ?_;by_cases c:neg=true/\A≠2
 ·(have:u=true:=by rw[hu];exact decide_eq_true c);subst this;rw[if_pos c] at h;exact Ev.congr (λk=>if_pos rfl) h
 ·(have:u=false:=by rw[hu];exact decide_eq_false c);subst this;rw[if_neg c] at h;refine Ev.congr (λk=>if_neg (by simp)) ?_;cases plus with
  |true=>exact Ev.congr (λk=>if_pos rfl) h
  |false=>
   refine Ev.congr (λk=>if_neg (by simp)) ?_;cases space with
   |true=>exact Ev.congr (λk=>if_pos rfl) h
   |false=>
    refine Ev.congr (λk=>if_neg (by simp)) ?_;by_cases c1:A=1
    ·rw[if_neg (by simp),if_neg (by simp),if_pos c1] at h;exact Ev.congr (λk=>if_pos c1) h
    ·rw[if_neg (by simp),if_neg (by simp),if_neg c1] at h;exact Ev.congr (λk=>if_neg c1) h
theorem zgX(prec:Int):mx (-1) (mn prec 1000)=clamp prec:=by rw[zcJ,zeP];rfl
theorem zim(wide:Bool){a p:Nat}(ha:a<18446744073709551616)(hb:bareN wide a=p)(hp:p<ii wide){m:Nat}(hm:m<18446744073709551616){e:Int}(h: -1200<=e/\e<=1200){sign:List UInt8}(hs:sign.length<=1/\Asc sign)(plus minus sharp space zero:Bool)(wid prec v:Int)(hc:codeV v≠0):
 Ev (λk=>zaf.j2 k (a:Int) (szB wide) (m:Int) e 0 (codeV v) (S sign) plus minus sharp space zero wid prec v) (S (endL sign (restL wide p m e (clamp prec) v sharp) minus zero wid),true):=by
 have hq:=zfd prec;have hfit:=zfe wide hp hm h hq v sharp;have hend:=zff hs hfit plus minus sharp space zero wid prec v;have hsl:=(zeC wide hp).2;have hcl:=zhx v;refine Ev.step (λk=>by simp only[zaf.j2];rfl) ?_;refine Ev.congr (λk=>if_neg (by decide)) ?_;refine Ev.congr (λk=>if_neg (by decide)) ?_;rw[zgX]
 have way: ∀dot:Bool,dot=(sharp&&v !=118)->Ev (λk=>if codeV v=1 then((zan.f k (a:Int) (szB wide) (m:Int) e (clamp prec) dot v).bind λA=>(zaf.j3 k (S sign) A plus minus sharp space zero wid prec v)) else(if codeV v=2 then((zam.f k (a:Int) (szB wide) (m:Int) e (clamp prec) dot v).bind λB=>(zaf.j3 k (S sign) B plus minus sharp space zero wid prec v)) else(if codeV v=3 then((zag.f k (a:Int) (szB wide) (m:Int) e (clamp prec) dot v).bind λD=>(zaf.j3 k (S sign) D plus minus sharp space zero wid prec v)) else(if codeV v=4 then((zaE.f (a:Int) (szB wide) (m:Int) e (clamp prec) dot v).bind λE=>(zaf.j3 k (S sign) E plus minus sharp space zero wid prec v)) else(if codeV v=5 then((zad.f k (a:Int) (szB wide) (m:Int) e (clamp prec) dot v).bind λI=>(zaf.j3 k (S sign) I plus minus sharp space zero wid prec v)) else none)))))
  (S (endL sign (restL wide p m e (clamp prec) v sharp) minus zero wid),true):=by
  intro dot hd
  unfold restL at hend ⊢
  rw[<-hd] at hend ⊢
  by_cases c1:codeV v=1
  ·rw[if_pos c1] at hend ⊢
   exact Ev.congr (λk=>if_pos c1) (Ev.bind (zgN _ _ hm h hq v dot) hend)
  ·rw[if_neg c1] at hend ⊢
   refine Ev.congr (λk=>if_neg c1) ?_
   by_cases c2:codeV v=2
   ·rw[if_pos c2] at hend ⊢
    exact Ev.congr (λk=>if_pos c2) (Ev.bind (zhv _ _ hm h hq v dot) hend)
   ·rw[if_neg c2] at hend ⊢
    refine Ev.congr (λk=>if_neg c2) ?_
    by_cases c3:codeV v=3
    ·rw[if_pos c3] at hend ⊢
     exact Ev.congr (λk=>if_pos c3) (Ev.bind (ziQ wide ha hb hp hsl hm h hq v dot) hend)
    ·rw[if_neg c3] at hend ⊢
     refine Ev.congr (λk=>if_neg c3) ?_
     by_cases c4:codeV v=4
     ·rw[if_pos c4] at hend ⊢
      refine Ev.congr (λk=>if_pos c4) ?_
      rw[zgG _ _ _ _ _ (by omega) (by omega)]
      exact hend
     ·rw[if_neg c4] at hend ⊢
      refine Ev.congr (λk=>if_neg c4) ?_
      exact Ev.congr (λk=>if_pos (by omega)) (Ev.bind (ziR _ _ v dot hm h hq) hend)
 cases sharp with
 |true=>exact Ev.congr (λk=>if_pos rfl) (way (v !=118) (by simp))
 |false=>exact Ev.congr (λk=>if_neg (by simp)) (way false rfl)
theorem zfg(wide:Bool){a:Nat}(ha:a<18446744073709551616)(plus minus sharp space zero:Bool)(wid prec v:Int):
 Ev (λk=>zaf.f k (a:Int) (szB wide) plus minus sharp space zero wid prec v) (floatS wide a plus minus sharp space zero wid prec v):=by
 have hi:=zeN wide;unfold zaf.f floatS;rw[parts_eq wide a ha];simp only[Option.bind_some];refine Ev.bind (zgS v) ?_;have hk: ∀x:Int,x=(partsS wide a).2.2.2->x≠3:=by
  intro x hx;rw[hx];unfold partsS;split
  ·exact(by decide:(0:Int)≠3)
  ·dsimp only;split<;>decide
 refine Ev.congr (λk=>if_neg (hk _ rfl)) ?_;refine Ev.step (λk=>by simp only[zaf.j0];rfl) ?_;by_cases c0:codeV v=0
 ·rw[if_pos c0];exact Ev.congr (λk=>if_pos (beq_iff_eq.mpr c0)) (Ev.now _)
 ·rw[if_neg c0];refine Ev.congr (λk=>if_neg (by rw[beq_eq_false_iff_ne.mpr c0];simp)) ?_
  have signs: ∀{R:ByteArray×Bool} (x9 B A:Int) (neg:Bool),Ev (λk=>zaf.j2 k (a:Int) (szB wide) x9 B A (codeV v) (S (signL neg A plus space)) plus minus sharp space zero wid prec v) R->
   Ev (λk=>if neg=true then(zaf.j1 k (a:Int) (szB wide) x9 B A (codeV v) (⟨#[]⟩:ByteArray) (A !=2) plus minus sharp space zero wid prec v) else(zaf.j1 k (a:Int) (szB wide) x9 B A (codeV v) (⟨#[]⟩:ByteArray) false plus minus sharp space zero wid prec v)) R:=by
   intro R x9 B A neg h
   cases neg with
   |true=>exact Ev.congr (λk=>if_pos rfl) (zfN _ _ _ _ _ _ true plus minus sharp space zero wid prec v h _ (by rw[Bool.eq_iff_iff];simp))
   |false=>exact Ev.congr (λk=>if_neg (by simp)) (zfN _ _ _ _ _ _ false plus minus sharp space zero wid prec v h _ (by rw[Bool.eq_iff_iff];simp))
  by_cases c1:bareN wide a<ii wide
  ·rw[if_pos c1];have hb:=fEl wide (Nat.le_of_lt c1);have D:=zc6 wide (Nat.le_of_lt c1);have e1:partsS wide a=((a / tt wide%2==1:Bool),(fM (ff wide) (bareN wide a):Int),(fE (ff wide) (bareN wide a):Int)-(ll wide:Int),0):=by
    unfold partsS;rw[if_pos c1]
   rw[e1];exact signs _ _ _ _ (zim (m:=fM (ff wide) (bareN wide a)) (e:=(fE (ff wide) (bareN wide a):Int)-(ll wide:Int)) wide ha rfl c1 (by omega) (by omega) (zc8 _ _ _ _) plus minus sharp space zero wid prec v c0)
  ·rw[if_neg c1];have e1:partsS wide a=((a / tt wide%2==1:Bool),0,0,if bareN wide a=ii wide then 1 else 2):=by
    unfold partsS;rw[if_neg c1]
   rw[e1];by_cases c2:bareN wide a=ii wide
   ·rw[if_pos c2,if_pos c2];refine signs _ _ _ _ ?_;refine Ev.step (λk=>by simp only[zaf.j2];rfl) ?_;refine Ev.congr (λk=>if_neg (by decide)) ?_;refine Ev.congr (λk=>if_pos (by first|trivial|rfl)) ?_;exact zff (rest:=[73,110,102]) (zc8 _ _ _ _) ⟨by decide,by decide⟩ plus minus sharp space false wid prec v
   ·rw[if_neg c2,if_neg c2];refine signs _ _ _ _ ?_;refine Ev.step (λk=>by simp only[zaf.j2];rfl) ?_;refine Ev.congr (λk=>if_pos (by first|trivial|rfl)) ?_;exact zff (rest:=[78,97,78]) (zc8 _ _ _ _) ⟨by decide,by decide⟩ plus minus sharp space false wid prec v
def HeadD(l:List UInt8):Prop:= ∃c t,l=c::t/\48<=c.toNat/\c.toNat<=57
theorem HeadD.app{a:List UInt8}(h:HeadD a)(b:List UInt8):HeadD (a++b):=by
 obtain⟨c,t,rfl,h1⟩:=h;exact⟨c,t++b,rfl,h1⟩
theorem zhy(sign rest:List UInt8)(minus zero:Bool){wid:Int}(h:wid<=0):endL sign rest minus zero wid=sign++rest:=by
 (have h1:(max 0 (min wid 1000)-(sign.length:Int)-(rest.length:Int)).toNat=0:=by omega);have h2: ∀l:List UInt8,padL l minus false wid=l:=by
  intro l;unfold padL;rw[show(max 0 (min wid 1000)-(l.length:Int)).toNat=0 by omega];cases minus<;>simp
 unfold endL;rw[h1,h2];split<;>simp
end Go.Proofs.YtilidabdbhaljaaGreatDoor.Pure
end
section
namespace Go.Proofs.YtilidabdbhaljaaGreatDoor.Fn
open Go.RowKit Go.Proofs.YtilidabdbhaljaaGreatDoorW.PrintWords Go.Proofs.YtilidabdbhaljaaGreatDoorW.PrintLast Go.Proofs.YtilidabdbhaljaaGreatDoorW.PrintMore
set_option maxHeartbeats 8000000
set_option maxRecDepth 100000
section
attribute [local go_sem] fnW_0 fnW_1 fnW_2 fnW_3 fnW_4 fnW_5 fnW_guard fnW_eql zaB zaC zaH zaI
def complexH(k:Nat)(M O:Int)(h:Int)(U A B D E:Bool)(I J K:Int):Option (ByteArray×Bool):=
  (zaf.f k M h U A B D E I J K).bind λa=>if a.2=true then((zaf.f k O h true A B D E I J K).bind λb=>if b.2=true then(if 1+a.1.size<=9223372036854775807 then(if((⟨#[40]⟩:ByteArray)++a.1).size+b.1.size<=9223372036854775807 then(if(((⟨#[40]⟩:ByteArray)++a.1)++b.1).size+2<=9223372036854775807 then some ((((⟨#[40]⟩:ByteArray)++a.1)++b.1)++(⟨#[105,41]⟩:ByteArray),true) else none) else none) else none) else some ((⟨#[]⟩:ByteArray),false)) else some ((⟨#[]⟩:ByteArray),false)
def za4.f(k:Nat)(A B:Int)(a1:Int)(D E I J K:Bool)(M O U:Int):Option (ByteArray×Bool):=
  if a1=64 then complexH k A B 32 D E I J K M O U else if a1=128 then complexH k A B 64 D E I J K M O U else some ((⟨#[]⟩:ByteArray),false)
theorem hG4{α:Type}{c:Prop}[Decidable c]{a:Option α}{r:α}(h:(if c then a else none)=some r):c/\a=some r:=by
 by_cases d:c
 ·rw[if_pos d] at h;exact⟨d,h⟩
 ·rw[if_neg d] at h;cases h
theorem zf8(k:Nat)(O U:Int)(M A B D E:Bool)(I J K:Int)(r1:ByteArray)(r2:Bool)(w:World)(H:complexH k O U 32 M A B D E I J K=some (r1,r2)):
    Calls Tryz.prog 13 #[.int .u64 O,.int .u64 U,.int .i64 64,.agg #[.bool M,.bool A,.bool B,.bool D,.bool E,.int .i64 I,.int .i64 J,.int .i32 K]] w λe w'=>e= .returned (.tuple #[.string r1,.bool r2])/\Below w.heap.size w w':=by
 unfold complexH at H;replace H:=bs H;obtain⟨⟨t1,t2⟩,A1,H⟩:=H;dsimp only at H;have HH:=zaa.mk H;clear H;have bC:=Tryz.underlying26;have bD:=Tryz.underlying43;have bE:=Tryz.underlying44;(have bG: ∀W:World,(Instr.index 44 (.agg #[.int .u64 O,.int .u64 U]) (.int .i64 0)).run Tryz.prog W= .ok (.int .u64 O) W:=by intro W;kernel_rfl);(have bH: ∀W:World,(Instr.index 44 (.agg #[.int .u64 O,.int .u64 U]) (.int .i64 1)).run Tryz.prog W= .ok (.int .u64 U) W:=by intro W;kernel_rfl);have HB:=zaa.mk (Below.refl w.heap.size w);go_enter Tryz.func13,Tryz.ntmps13;go_wp2_with (first|((with_reducible refine zai (N:=7) rfl ?_);refine zah rfl (N:=7) rfl (cs:=#[.bool M,.bool A,.bool B,.bool D,.bool E,.int .i64 I,.int .i64 J,.int .i32 K]) (t:=26) gz ?_;intro Z hg w4 hbox hb;have bU:=gN bz hg;have X:=zaa.mk hbox;replace HB:=bN bz hb;clear hb hbox hg;obtain⟨aU,aV,aW,aX,aY,aZ,a1,a2,a3,a4,a5,a6,a7,a8,a9,ba⟩:=cz8 (W:=w4) X)|((with_reducible refine zai (N:=10) rfl ?_);refine zah rfl (N:=10) rfl (cs:=#[.string (⟨#[]⟩:ByteArray),.string (⟨#[]⟩:ByteArray)]) (t:=43) gz ?_;intro aa hg w5 hbox hb;have bV:=gN bz hg;have aS:=lN (g:=Z) (cs:=#[.bool M,.bool A,.bool B,.bool D,.bool E,.int .i64 I,.int .i64 J,.int .i32 K]) hg bk;have aT:=rN (g:=Z) (cs:=#[.bool M,.bool A,.bool B,.bool D,.bool E,.int .i64 I,.int .i64 J,.int .i32 K]) hg bk;replace X:=kN (g:=Z) (cs:=#[.bool M,.bool A,.bool B,.bool D,.bool E,.int .i64 I,.int .i64 J,.int .i32 K]) hb bk;have Y:=zaa.mk hbox;replace HB:=bN bz hb;clear hb hbox hg;have bI:=aS.out;have bJ:=aT.out;obtain⟨bb,bd,be,bf,bg,bh,bi,bj,bl,bm,bn,bo,bp,bq,br,bu⟩:=cz8 (W:=w5) X;obtain⟨bv,bw,bA,bB⟩:=cz2 (W:=w5) Y));refine wp_loop_rounds 3 ?_;rw[rounds_succ];cases t2 with
 |false=>
  have H:=HH.out;clear HH;rw[if_neg (by simp)] at H;simp only[Option.some.injEq,Prod.mk.injEq] at H;obtain⟨rfl,rfl⟩:=H;go_wp2_with (first|(go_at_call 18;(with_reducible refine(zaf.calls k O 32 M A B D E I J K t1 false _ A1.out).mono ?_);rintro e w6 ⟨rfl,hb⟩;replace X:=kN (g:=Z) (cs:=#[.bool M,.bool A,.bool B,.bool D,.bool E,.int .i64 I,.int .i64 J,.int .i32 K]) hb bk;replace Y:=kN (g:=aa) (cs:=#[.string (⟨#[]⟩:ByteArray),.string (⟨#[]⟩:ByteArray)]) hb bk;replace HB:=bN bz hb;clear hb;obtain⟨ab,ac,ad,ae,af,ag,ah,ai,aj,ak,al,am,an,ao,ap,ar⟩:=cz8 (W:=w6) X;obtain⟨au,av,aw,ax⟩:=cz2 (W:=w6) Y));go_ret2;exact⟨ez,bz⟩
 |true=>
  have H:=HH.out;clear HH;rw[if_pos rfl] at H;replace H:=bs H;obtain⟨⟨t3,t4⟩,A2,H⟩:=H;dsimp only at H;have HH:=zaa.mk H;clear H;go_wp2_with (first|(go_at_call 18;(with_reducible refine(zaf.calls k O 32 M A B D E I J K t1 true _ A1.out).mono ?_);rintro e w6 ⟨rfl,hb⟩;replace X:=kN (g:=Z) (cs:=#[.bool M,.bool A,.bool B,.bool D,.bool E,.int .i64 I,.int .i64 J,.int .i32 K]) hb bk;replace Y:=kN (g:=aa) (cs:=#[.string (⟨#[]⟩:ByteArray),.string (⟨#[]⟩:ByteArray)]) hb bk;replace HB:=bN bz hb;clear hb;obtain⟨ab,ac,ad,ae,af,ag,ah,ai,aj,ak,al,am,an,ao,ap,ar⟩:=cz8 (W:=w6) X;obtain⟨au,av,aw,ax⟩:=cz2 (W:=w6) Y));rw[rounds_succ];cases t4 with
  |false=>
   have H:=HH.out;clear HH;rw[if_neg (by simp)] at H;simp only[Option.some.injEq,Prod.mk.injEq] at H;obtain⟨rfl,rfl⟩:=H;go_wp2_with (first|(go_at_call 18;(with_reducible refine(zaf.calls k U 32 true A B D E I J K t3 false _ A2.out).mono ?_);rintro e w7 ⟨rfl,hb⟩;replace X:=kN (g:=Z) (cs:=#[.bool true,.bool A,.bool B,.bool D,.bool E,.int .i64 I,.int .i64 J,.int .i32 K]) hb bk;replace Y:=kN (g:=aa) (cs:=#[.string t1,.string (⟨#[]⟩:ByteArray)]) hb bk;replace HB:=bN bz hb;clear hb;obtain⟨ay,az,aA,aB,aC,aD,aE,aF,aG,aH,aI,aJ,aK,aL,aM,aN⟩:=cz8 (W:=w7) X;obtain⟨aO,aP,aQ,aR⟩:=cz2 (W:=w7) Y));go_ret2;exact⟨ez,bz⟩
  |true=>
   have H:=HH.out;clear HH;rw[if_pos rfl] at H;obtain⟨c1,H⟩:=hG4 H;obtain⟨c2,H⟩:=hG4 H;obtain⟨c3,H⟩:=hG4 H;have bK:=eq_true c1;have bL:=eq_true c2;have bM:=eq_true c3;have bO:=eq_false (Nat.not_lt.2 c1);have bP:=eq_false (Nat.not_lt.2 c2);have bQ:=eq_false (Nat.not_lt.2 c3);have bR:(9223372036854775807<1+t1.size+t3.size)=False:=eq_false (by have h_:=c2;rw[ByteArray.size_append] at h_;exact Nat.not_lt.2 h_);have bS:(9223372036854775807<1+t1.size+t3.size+2)=False:=eq_false (by have h_:=c3;rw[ByteArray.size_append,ByteArray.size_append] at h_;exact Nat.not_lt.2 h_);clear c1 c2 c3;simp only[Option.some.injEq,Prod.mk.injEq] at H;obtain⟨rfl,rfl⟩:=H;go_wp2_with (first|(go_at_call 18;(with_reducible refine(zaf.calls k U 32 true A B D E I J K t3 true _ A2.out).mono ?_);rintro e w7 ⟨rfl,hb⟩;replace X:=kN (g:=Z) (cs:=#[.bool true,.bool A,.bool B,.bool D,.bool E,.int .i64 I,.int .i64 J,.int .i32 K]) hb bk;replace Y:=kN (g:=aa) (cs:=#[.string t1,.string (⟨#[]⟩:ByteArray)]) hb bk;replace HB:=bN bz hb;clear hb;obtain⟨ay,az,aA,aB,aC,aD,aE,aF,aG,aH,aI,aJ,aK,aL,aM,aN⟩:=cz8 (W:=w7) X;obtain⟨aO,aP,aQ,aR⟩:=cz2 (W:=w7) Y));rw[rounds_succ];go_wp2;go_ret2;exact⟨ez,bz⟩
theorem zfq(k:Nat)(O U:Int)(M A B D E:Bool)(I J K:Int)(r1:ByteArray)(r2:Bool)(w:World)(H:complexH k O U 64 M A B D E I J K=some (r1,r2)):
    Calls Tryz.prog 13 #[.int .u64 O,.int .u64 U,.int .i64 128,.agg #[.bool M,.bool A,.bool B,.bool D,.bool E,.int .i64 I,.int .i64 J,.int .i32 K]] w λe w'=>e= .returned (.tuple #[.string r1,.bool r2])/\Below w.heap.size w w':=by
 unfold complexH at H;replace H:=bs H;obtain⟨⟨t1,t2⟩,A1,H⟩:=H;dsimp only at H;have HH:=zaa.mk H;clear H;have bC:=Tryz.underlying26;have bD:=Tryz.underlying43;have bE:=Tryz.underlying44;(have bG: ∀W:World,(Instr.index 44 (.agg #[.int .u64 O,.int .u64 U]) (.int .i64 0)).run Tryz.prog W= .ok (.int .u64 O) W:=by intro W;kernel_rfl);(have bH: ∀W:World,(Instr.index 44 (.agg #[.int .u64 O,.int .u64 U]) (.int .i64 1)).run Tryz.prog W= .ok (.int .u64 U) W:=by intro W;kernel_rfl);have HB:=zaa.mk (Below.refl w.heap.size w);go_enter Tryz.func13,Tryz.ntmps13;go_wp2_with (first|((with_reducible refine zai (N:=7) rfl ?_);refine zah rfl (N:=7) rfl (cs:=#[.bool M,.bool A,.bool B,.bool D,.bool E,.int .i64 I,.int .i64 J,.int .i32 K]) (t:=26) gz ?_;intro Z hg w4 hbox hb;have bU:=gN bz hg;have X:=zaa.mk hbox;replace HB:=bN bz hb;clear hb hbox hg;obtain⟨aU,aV,aW,aX,aY,aZ,a1,a2,a3,a4,a5,a6,a7,a8,a9,ba⟩:=cz8 (W:=w4) X)|((with_reducible refine zai (N:=10) rfl ?_);refine zah rfl (N:=10) rfl (cs:=#[.string (⟨#[]⟩:ByteArray),.string (⟨#[]⟩:ByteArray)]) (t:=43) gz ?_;intro aa hg w5 hbox hb;have bV:=gN bz hg;have aS:=lN (g:=Z) (cs:=#[.bool M,.bool A,.bool B,.bool D,.bool E,.int .i64 I,.int .i64 J,.int .i32 K]) hg bk;have aT:=rN (g:=Z) (cs:=#[.bool M,.bool A,.bool B,.bool D,.bool E,.int .i64 I,.int .i64 J,.int .i32 K]) hg bk;replace X:=kN (g:=Z) (cs:=#[.bool M,.bool A,.bool B,.bool D,.bool E,.int .i64 I,.int .i64 J,.int .i32 K]) hb bk;have Y:=zaa.mk hbox;replace HB:=bN bz hb;clear hb hbox hg;have bI:=aS.out;have bJ:=aT.out;obtain⟨bb,bd,be,bf,bg,bh,bi,bj,bl,bm,bn,bo,bp,bq,br,bu⟩:=cz8 (W:=w5) X;obtain⟨bv,bw,bA,bB⟩:=cz2 (W:=w5) Y));refine wp_loop_rounds 3 ?_;rw[rounds_succ];cases t2 with
 |false=>
  have H:=HH.out;clear HH;rw[if_neg (by simp)] at H;simp only[Option.some.injEq,Prod.mk.injEq] at H;obtain⟨rfl,rfl⟩:=H;go_wp2_with (first|(go_at_call 18;(with_reducible refine(zaf.calls k O 64 M A B D E I J K t1 false _ A1.out).mono ?_);rintro e w6 ⟨rfl,hb⟩;replace X:=kN (g:=Z) (cs:=#[.bool M,.bool A,.bool B,.bool D,.bool E,.int .i64 I,.int .i64 J,.int .i32 K]) hb bk;replace Y:=kN (g:=aa) (cs:=#[.string (⟨#[]⟩:ByteArray),.string (⟨#[]⟩:ByteArray)]) hb bk;replace HB:=bN bz hb;clear hb;obtain⟨ab,ac,ad,ae,af,ag,ah,ai,aj,ak,al,am,an,ao,ap,ar⟩:=cz8 (W:=w6) X;obtain⟨au,av,aw,ax⟩:=cz2 (W:=w6) Y));go_ret2;exact⟨ez,bz⟩
 |true=>
  have H:=HH.out;clear HH;rw[if_pos rfl] at H;replace H:=bs H;obtain⟨⟨t3,t4⟩,A2,H⟩:=H;dsimp only at H;have HH:=zaa.mk H;clear H;go_wp2_with (first|(go_at_call 18;(with_reducible refine(zaf.calls k O 64 M A B D E I J K t1 true _ A1.out).mono ?_);rintro e w6 ⟨rfl,hb⟩;replace X:=kN (g:=Z) (cs:=#[.bool M,.bool A,.bool B,.bool D,.bool E,.int .i64 I,.int .i64 J,.int .i32 K]) hb bk;replace Y:=kN (g:=aa) (cs:=#[.string (⟨#[]⟩:ByteArray),.string (⟨#[]⟩:ByteArray)]) hb bk;replace HB:=bN bz hb;clear hb;obtain⟨ab,ac,ad,ae,af,ag,ah,ai,aj,ak,al,am,an,ao,ap,ar⟩:=cz8 (W:=w6) X;obtain⟨au,av,aw,ax⟩:=cz2 (W:=w6) Y));rw[rounds_succ];cases t4 with
  |false=>
   have H:=HH.out;clear HH;rw[if_neg (by simp)] at H;simp only[Option.some.injEq,Prod.mk.injEq] at H;obtain⟨rfl,rfl⟩:=H;go_wp2_with (first|(go_at_call 18;(with_reducible refine(zaf.calls k U 64 true A B D E I J K t3 false _ A2.out).mono ?_);rintro e w7 ⟨rfl,hb⟩;replace X:=kN (g:=Z) (cs:=#[.bool true,.bool A,.bool B,.bool D,.bool E,.int .i64 I,.int .i64 J,.int .i32 K]) hb bk;replace Y:=kN (g:=aa) (cs:=#[.string t1,.string (⟨#[]⟩:ByteArray)]) hb bk;replace HB:=bN bz hb;clear hb;obtain⟨ay,az,aA,aB,aC,aD,aE,aF,aG,aH,aI,aJ,aK,aL,aM,aN⟩:=cz8 (W:=w7) X;obtain⟨aO,aP,aQ,aR⟩:=cz2 (W:=w7) Y));go_ret2;exact⟨ez,bz⟩
  |true=>
   have H:=HH.out;clear HH;rw[if_pos rfl] at H;obtain⟨c1,H⟩:=hG4 H;obtain⟨c2,H⟩:=hG4 H;obtain⟨c3,H⟩:=hG4 H;have bK:=eq_true c1;have bL:=eq_true c2;have bM:=eq_true c3;have bO:=eq_false (Nat.not_lt.2 c1);have bP:=eq_false (Nat.not_lt.2 c2);have bQ:=eq_false (Nat.not_lt.2 c3);have bR:(9223372036854775807<1+t1.size+t3.size)=False:=eq_false (by have h_:=c2;rw[ByteArray.size_append] at h_;exact Nat.not_lt.2 h_);have bS:(9223372036854775807<1+t1.size+t3.size+2)=False:=eq_false (by have h_:=c3;rw[ByteArray.size_append,ByteArray.size_append] at h_;exact Nat.not_lt.2 h_);clear c1 c2 c3;simp only[Option.some.injEq,Prod.mk.injEq] at H;obtain⟨rfl,rfl⟩:=H;go_wp2_with (first|(go_at_call 18;(with_reducible refine(zaf.calls k U 64 true A B D E I J K t3 true _ A2.out).mono ?_);rintro e w7 ⟨rfl,hb⟩;replace X:=kN (g:=Z) (cs:=#[.bool true,.bool A,.bool B,.bool D,.bool E,.int .i64 I,.int .i64 J,.int .i32 K]) hb bk;replace Y:=kN (g:=aa) (cs:=#[.string t1,.string (⟨#[]⟩:ByteArray)]) hb bk;replace HB:=bN bz hb;clear hb;obtain⟨ay,az,aA,aB,aC,aD,aE,aF,aG,aH,aI,aJ,aK,aL,aM,aN⟩:=cz8 (W:=w7) X;obtain⟨aO,aP,aQ,aR⟩:=cz2 (W:=w7) Y));rw[rounds_succ];go_wp2;go_ret2;exact⟨ez,bz⟩
theorem za4.calls(k:Nat)(O U:Int)(a1:Int)(A B D E I:Bool)(J K M:Int)(r1:ByteArray)(r2:Bool)(w:World)(h:za4.f k O U a1 A B D E I J K M=some (r1,r2)):
 Calls Tryz.prog 13 #[.int .u64 O,.int .u64 U,.int .i64 a1,.agg #[.bool A,.bool B,.bool D,.bool E,.bool I,.int .i64 J,.int .i64 K,.int .i32 M]] w λe w'=>e= .returned (.tuple #[.string r1,.bool r2])/\Below w.heap.size w w':=by
 unfold za4.f at h;by_cases d1:a1=64
 ·rw[if_pos d1] at h;subst d1;exact zf8 k O U A B D E I J K M r1 r2 w h
 ·rw[if_neg d1] at h;by_cases d2:a1=128
  ·rw[if_pos d2] at h;subst d2;exact zfq k O U A B D E I J K M r1 r2 w h
  ·rw[if_neg d2] at h;simp only[Option.some.injEq,Prod.mk.injEq] at h;obtain⟨rfl,rfl⟩:=h;obtain⟨e1,e2⟩:=eF d1;obtain⟨e3,e4⟩:=eF d2;have ao:=Tryz.underlying26;have HB:=zaa.mk (Below.refl w.heap.size w);go_enter Tryz.func13,Tryz.ntmps13;go_wp2_with (first|((with_reducible refine zai (N:=7) rfl ?_);refine zah rfl (N:=7) rfl (cs:=#[.bool A,.bool B,.bool D,.bool E,.bool I,.int .i64 J,.int .i64 K,.int .i32 M]) (t:=26) gz ?_;intro ap hg w4 hbox hb;have ar:=gN bz hg;have an:=zaa.mk hbox;replace HB:=bN bz hb;clear hb hbox hg;obtain⟨X,Y,Z,aa,ab,ac,ad,ae,af,ag,ah,ai,aj,ak,al,am⟩:=cz8 (W:=w4) an));go_ret2;exact⟨ez,bz⟩
def zaS.f(k:Nat):Option (Bool):=(za4.f k 4609434218613702656 13835058055282163712 128 false false false false false (-1) (-1) 118).bind λB=>((zal.f k (⟨#[40,49,101,43,48,54,45,50,105,41]⟩:ByteArray)).bind λA=>((zal.f k (⟨#[40,49,105,41]⟩:ByteArray)).bind λD=>(if B.2=true then(if A.2.2=true then(if D.2.2=true then(some false) else(if B.1.toList=([40,49,46,53,45,50,105,41]:List UInt8) then(if A.1.toList=([49,101,43,48,54]:List UInt8) then(some (A.2.1.toList==([45,50]:List UInt8))) else(some false)) else(some false))) else(some false)) else(some false))))
theorem zaS.calls(k:Nat)(r:Bool)(w:World)(h:zaS.f k=some r):
 Calls Tryz.prog 15 #[] w λe w'=>e= .returned (.bool r)/\Below w.heap.size w w':=by
 have ac:=Tryz.underlying26;have HB:=zaa.mk (Below.refl w.heap.size w);have H:((za4.f k 4609434218613702656 13835058055282163712 128 false false false false false (-1) (-1) 118).bind λK=>((zal.f k (⟨#[40,49,101,43,48,54,45,50,105,41]⟩:ByteArray)).bind λJ=>((zal.f k (⟨#[40,49,105,41]⟩:ByteArray)).bind λU=>(if K.2=true then(if J.2.2=true then(if U.2.2=true then(some false) else(if K.1.toList=([40,49,46,53,45,50,105,41]:List UInt8) then(if J.1.toList=([49,101,43,48,54]:List UInt8) then(some (J.2.1.toList==([45,50]:List UInt8))) else(some false)) else(some false))) else(some false)) else(some false)))))=some r:=h;clear h;replace H:=bs H;obtain⟨⟨A,X⟩,A1,H⟩:=H;dsimp only at H;replace H:=bs H;obtain⟨⟨B,D,O⟩,A2,H⟩:=H;dsimp only at H;replace H:=bs H;obtain⟨⟨E,I,M⟩,A3,H⟩:=H;dsimp only at H;by_cases c4:X=true;case neg=>
  replace c4:=Bool.eq_false_iff.mpr c4;subst c4;replace H:=hF H;obtain rfl:=Option.some.inj H;go_enter Tryz.func15,Tryz.ntmps15;go_wp2_with (first|((with_reducible refine zac (f:=13) rfl ?_);refine gB Tryz.func13 (za4.calls k 4609434218613702656 13835058055282163712 128 false false false false false (-1) (-1) 118 A false _ A1.out) ?_;intro ah hb;replace HB:=bN bz hb;clear hb)|((with_reducible refine zac (f:=16) rfl ?_);refine zaO (some 15) rfl rfl Tryz.func16 (by kernel_rfl) rfl #[.string (⟨#[40,49,101,43,48,54,45,50,105,41]⟩:ByteArray)] rfl lz ?_;(with_reducible refine(zal.calls k (⟨#[40,49,101,43,48,54,45,50,105,41]⟩:ByteArray) B D O _ A2.out).mono ?_);rintro e w' ⟨rfl,⟨nd,rfl⟩⟩;refine⟨_,rfl,?_⟩)|((with_reducible refine zac (f:=16) rfl ?_);refine zaO (some 20) rfl rfl Tryz.func16 (by kernel_rfl) rfl #[.string (⟨#[40,49,105,41]⟩:ByteArray)] rfl lz ?_;(with_reducible refine(zal.calls k (⟨#[40,49,105,41]⟩:ByteArray) E I M _ A3.out).mono ?_);rintro e w' ⟨rfl,⟨nd,rfl⟩⟩;refine⟨_,rfl,?_⟩));go_ret;exact⟨ez,bz⟩
 subst c4;replace H:=hT H;by_cases c5:O=true;case neg=>
  replace c5:=Bool.eq_false_iff.mpr c5;subst c5;replace H:=hF H;obtain rfl:=Option.some.inj H;go_enter Tryz.func15,Tryz.ntmps15;go_wp2_with (first|((with_reducible refine zac (f:=13) rfl ?_);refine gB Tryz.func13 (za4.calls k 4609434218613702656 13835058055282163712 128 false false false false false (-1) (-1) 118 A true _ A1.out) ?_;intro ag hb;replace HB:=bN bz hb;clear hb)|((with_reducible refine zac (f:=16) rfl ?_);refine zaO (some 15) rfl rfl Tryz.func16 (by kernel_rfl) rfl #[.string (⟨#[40,49,101,43,48,54,45,50,105,41]⟩:ByteArray)] rfl lz ?_;(with_reducible refine(zal.calls k (⟨#[40,49,101,43,48,54,45,50,105,41]⟩:ByteArray) B D false _ A2.out).mono ?_);rintro e w' ⟨rfl,⟨nd,rfl⟩⟩;refine⟨_,rfl,?_⟩)|((with_reducible refine zac (f:=16) rfl ?_);refine zaO (some 20) rfl rfl Tryz.func16 (by kernel_rfl) rfl #[.string (⟨#[40,49,105,41]⟩:ByteArray)] rfl lz ?_;(with_reducible refine(zal.calls k (⟨#[40,49,105,41]⟩:ByteArray) E I M _ A3.out).mono ?_);rintro e w' ⟨rfl,⟨nd,rfl⟩⟩;refine⟨_,rfl,?_⟩));go_ret;exact⟨ez,bz⟩
 subst c5;replace H:=hT H;by_cases c6:M=true
 (·subst c6;replace H:=hT H;obtain rfl:=Option.some.inj H;go_enter Tryz.func15,Tryz.ntmps15;go_wp2_with (first|((with_reducible refine zac (f:=13) rfl ?_);refine gB Tryz.func13 (za4.calls k 4609434218613702656 13835058055282163712 128 false false false false false (-1) (-1) 118 A true _ A1.out) ?_;intro w7 hb;replace HB:=bN bz hb;clear hb)|((with_reducible refine zac (f:=16) rfl ?_);refine zaO (some 15) rfl rfl Tryz.func16 (by kernel_rfl) rfl #[.string (⟨#[40,49,101,43,48,54,45,50,105,41]⟩:ByteArray)] rfl lz ?_;(with_reducible refine(zal.calls k (⟨#[40,49,101,43,48,54,45,50,105,41]⟩:ByteArray) B D true _ A2.out).mono ?_);rintro e w' ⟨rfl,⟨nd,rfl⟩⟩;refine⟨_,rfl,?_⟩)|((with_reducible refine zac (f:=16) rfl ?_);refine zaO (some 20) rfl rfl Tryz.func16 (by kernel_rfl) rfl #[.string (⟨#[40,49,105,41]⟩:ByteArray)] rfl lz ?_;(with_reducible refine(zal.calls k (⟨#[40,49,105,41]⟩:ByteArray) E I true _ A3.out).mono ?_);rintro e w' ⟨rfl,⟨nd,rfl⟩⟩;refine⟨_,rfl,?_⟩));go_ret;exact⟨ez,bz⟩);replace c6:=Bool.eq_false_iff.mpr c6;subst c6;replace H:=hF H;by_cases c8:A.toList=([40,49,46,53,45,50,105,41]:List UInt8);case neg=>
  replace H:=hN H c8;have Y:(A.toList==([40,49,46,53,45,50,105,41]:List UInt8))=false:=beq_eq_false_iff_ne.mpr c8;have Z:(A.toList !=([40,49,46,53,45,50,105,41]:List UInt8))=true:=bne_iff_ne.mpr c8;obtain rfl:=Option.some.inj H;go_enter Tryz.func15,Tryz.ntmps15;go_wp2_with (first|((with_reducible refine zac (f:=13) rfl ?_);refine gB Tryz.func13 (za4.calls k 4609434218613702656 13835058055282163712 128 false false false false false (-1) (-1) 118 A true _ A1.out) ?_;intro af hb;replace HB:=bN bz hb;clear hb)|((with_reducible refine zac (f:=16) rfl ?_);refine zaO (some 15) rfl rfl Tryz.func16 (by kernel_rfl) rfl #[.string (⟨#[40,49,101,43,48,54,45,50,105,41]⟩:ByteArray)] rfl lz ?_;(with_reducible refine(zal.calls k (⟨#[40,49,101,43,48,54,45,50,105,41]⟩:ByteArray) B D true _ A2.out).mono ?_);rintro e w' ⟨rfl,⟨nd,rfl⟩⟩;refine⟨_,rfl,?_⟩)|((with_reducible refine zac (f:=16) rfl ?_);refine zaO (some 20) rfl rfl Tryz.func16 (by kernel_rfl) rfl #[.string (⟨#[40,49,105,41]⟩:ByteArray)] rfl lz ?_;(with_reducible refine(zal.calls k (⟨#[40,49,105,41]⟩:ByteArray) E I false _ A3.out).mono ?_);rintro e w' ⟨rfl,⟨nd,rfl⟩⟩;refine⟨_,rfl,?_⟩));go_ret;exact⟨ez,bz⟩
 replace H:=hE H c8;have Y:(A.toList==([40,49,46,53,45,50,105,41]:List UInt8))=true:=beq_iff_eq.mpr c8;have Z:(A.toList !=([40,49,46,53,45,50,105,41]:List UInt8))=false:=bne_eq_false_iff_eq.mpr c8;clear c8;by_cases c9:B.toList=([49,101,43,48,54]:List UInt8)
 (·replace H:=hE H c9;have aa:(B.toList==([49,101,43,48,54]:List UInt8))=true:=beq_iff_eq.mpr c9;have ab:(B.toList !=([49,101,43,48,54]:List UInt8))=false:=bne_eq_false_iff_eq.mpr c9;clear c9;obtain rfl:=Option.some.inj H;go_enter Tryz.func15,Tryz.ntmps15;go_wp2_with (first|((with_reducible refine zac (f:=13) rfl ?_);refine gB Tryz.func13 (za4.calls k 4609434218613702656 13835058055282163712 128 false false false false false (-1) (-1) 118 A true _ A1.out) ?_;intro ad hb;replace HB:=bN bz hb;clear hb)|((with_reducible refine zac (f:=16) rfl ?_);refine zaO (some 15) rfl rfl Tryz.func16 (by kernel_rfl) rfl #[.string (⟨#[40,49,101,43,48,54,45,50,105,41]⟩:ByteArray)] rfl lz ?_;(with_reducible refine(zal.calls k (⟨#[40,49,101,43,48,54,45,50,105,41]⟩:ByteArray) B D true _ A2.out).mono ?_);rintro e w' ⟨rfl,⟨nd,rfl⟩⟩;refine⟨_,rfl,?_⟩)|((with_reducible refine zac (f:=16) rfl ?_);refine zaO (some 20) rfl rfl Tryz.func16 (by kernel_rfl) rfl #[.string (⟨#[40,49,105,41]⟩:ByteArray)] rfl lz ?_;(with_reducible refine(zal.calls k (⟨#[40,49,105,41]⟩:ByteArray) E I false _ A3.out).mono ?_);rintro e w' ⟨rfl,⟨nd,rfl⟩⟩;refine⟨_,rfl,?_⟩));go_ret;exact⟨ez,bz⟩);replace H:=hN H c9;have aa:(B.toList==([49,101,43,48,54]:List UInt8))=false:=beq_eq_false_iff_ne.mpr c9;have ab:(B.toList !=([49,101,43,48,54]:List UInt8))=true:=bne_iff_ne.mpr c9;obtain rfl:=Option.some.inj H;go_enter Tryz.func15,Tryz.ntmps15;go_wp2_with (first|((with_reducible refine zac (f:=13) rfl ?_);refine gB Tryz.func13 (za4.calls k 4609434218613702656 13835058055282163712 128 false false false false false (-1) (-1) 118 A true _ A1.out) ?_;intro ae hb;replace HB:=bN bz hb;clear hb)|((with_reducible refine zac (f:=16) rfl ?_);refine zaO (some 15) rfl rfl Tryz.func16 (by kernel_rfl) rfl #[.string (⟨#[40,49,101,43,48,54,45,50,105,41]⟩:ByteArray)] rfl lz ?_;(with_reducible refine(zal.calls k (⟨#[40,49,101,43,48,54,45,50,105,41]⟩:ByteArray) B D true _ A2.out).mono ?_);rintro e w' ⟨rfl,⟨nd,rfl⟩⟩;refine⟨_,rfl,?_⟩)|((with_reducible refine zac (f:=16) rfl ?_);refine zaO (some 20) rfl rfl Tryz.func16 (by kernel_rfl) rfl #[.string (⟨#[40,49,105,41]⟩:ByteArray)] rfl lz ?_;(with_reducible refine(zal.calls k (⟨#[40,49,105,41]⟩:ByteArray) E I false _ A3.out).mono ?_);rintro e w' ⟨rfl,⟨nd,rfl⟩⟩;refine⟨_,rfl,?_⟩));go_ret;exact⟨ez,bz⟩
end
end Go.Proofs.YtilidabdbhaljaaGreatDoor.Fn
end
section
namespace Go.Proofs.YtilidabdbhaljaaGreatDoor.Pure
open Go.RowKit Go.Proofs.YtilidabdbhaljaaGreatDoorW.PrintWords Go.Proofs.YtilidabdbhaljaaGreatDoorW.PrintLast Go.Proofs.YtilidabdbhaljaaGreatDoorW.PrintMore Go.Proofs.YtilidabdbhaljaaGreatDoor.Fn
def textL(wide:Bool)(a:Nat)(plus minus sharp space zero:Bool)(wid prec v:Int):List UInt8:=
  if bareN wide a<ii wide then endL (signL (a / tt wide%2==1) 0 plus space) (restL wide (bareN wide a) (fM (ff wide) (bareN wide a)) ((fE (ff wide) (bareN wide a):Int)-(ll wide:Int)) (clamp prec) v sharp) minus zero wid
  else if bareN wide a=ii wide then endL (signL (a / tt wide%2==1) 1 plus space) [73,110,102] minus false wid
  else endL (signL (a / tt wide%2==1) 2 plus space) [78,97,78] minus false wid
theorem zfr(wide:Bool)(a:Nat)(plus minus sharp space zero:Bool)(wid prec v:Int)(h:codeV v≠0):floatS wide a plus minus sharp space zero wid prec v=(S (textL wide a plus minus sharp space zero wid prec v),true):=by
 unfold floatS textL;rw[if_neg h];by_cases c1:bareN wide a<ii wide
 ·rw[if_pos c1,if_pos c1]
 ·rw[if_neg c1,if_neg c1];by_cases c2:bareN wide a=ii wide
  ·rw[if_pos c2,if_pos c2]
  ·rw[if_neg c2,if_neg c2]
theorem zgY(wide:Bool)(a:Nat)(plus minus sharp space zero:Bool)(wid prec v:Int)(h:codeV v=0):floatS wide a plus minus sharp space zero wid prec v=(⟨#[]⟩,false):=by
 unfold floatS;rw[if_pos h]
theorem zhz(l:List UInt8)(m z:Bool)(wid:Int):(padL l m z wid).length<=l.length+1000:=by
 unfold padL;cases m<;>cases z<;>simp<;>omega
theorem zdN(sign rest:List UInt8)(m z:Bool)(wid:Int):(endL sign rest m z wid).length<=sign.length+rest.length+2000:=by
 unfold endL;have h:=zhz (sign++(if(z&& !m)=true then List.replicate (max 0 (min wid 1000)-sign.length-rest.length).toNat 48++rest else rest)) m false wid;have h2:(if(z&& !m)=true then List.replicate (max 0 (min wid 1000)-sign.length-rest.length).toNat 48++rest else rest).length<=rest.length+1000:=by
  split
  ·rw[List.length_append,List.length_replicate];omega
  ·omega
 rw[List.length_append] at h;omega
theorem zeD(wide:Bool)(a:Nat)(plus minus sharp space zero:Bool)(wid prec v:Int):(textL wide a plus minus sharp space zero wid prec v).length<=200000:=by
 have hs:=λk=>(zc8 (a / tt wide%2==1) k plus space).1;unfold textL;by_cases c1:bareN wide a<ii wide
 ·rw[if_pos c1];have hb:=fEl wide (Nat.le_of_lt c1);have A:=zc6 wide (Nat.le_of_lt c1);have hfit:=(zfe wide c1 (m:=fM (ff wide) (bareN wide a)) (by omega) (e:=(fE (ff wide) (bareN wide a):Int)-(ll wide:Int)) (by omega) (zfd prec) v sharp).2;have h0:=hs 0;have h:=zdN (signL (a / tt wide%2==1) 0 plus space) (restL wide (bareN wide a) (fM (ff wide) (bareN wide a)) ((fE (ff wide) (bareN wide a):Int)-(ll wide:Int)) (clamp prec) v sharp) minus zero wid;omega
 ·rw[if_neg c1];by_cases c2:bareN wide a=ii wide
  ·rw[if_pos c2];have h0:=hs 1;have h:=zdN (signL (a / tt wide%2==1) 1 plus space) [73,110,102] minus false wid;simp at h;omega
  ·rw[if_neg c2];have h0:=hs 2;have h:=zdN (signL (a / tt wide%2==1) 2 plus space) [78,97,78] minus false wid;simp at h;omega
def szC(wide:Bool):Int:=if wide then 128 else 64
def cplxS(wide:Bool)(a b:Nat)(plus minus sharp space zero:Bool)(wid prec v:Int):ByteArray×Bool:=
  if codeV v=0 then(⟨#[]⟩,false) else(S ([40]++(textL wide a plus minus sharp space zero wid prec v++(textL wide b true minus sharp space zero wid prec v++[105,41]))),true)
theorem zfO(wide:Bool){a b:Nat}(ha:a<18446744073709551616)(hb:b<18446744073709551616)(plus minus sharp space zero:Bool)(wid prec v:Int):
 Ev (λk=>complexH k (a:Int) (b:Int) (szB wide) plus minus sharp space zero wid prec v) (cplxS wide a b plus minus sharp space zero wid prec v):=by
 have f1:=zfg wide ha plus minus sharp space zero wid prec v;have f2:=zfg wide hb true minus sharp space zero wid prec v;unfold complexH cplxS;by_cases c:codeV v=0
 ·rw[if_pos c];rw[zgY _ _ _ _ _ _ _ _ _ _ c] at f1;refine Ev.bind f1 ?_;exact Ev.congr (λk=>if_neg (by simp)) (Ev.now _)
 ·rw[if_neg c];rw[zfr _ _ _ _ _ _ _ _ _ _ c] at f1 f2;have l1:=zeD wide a plus minus sharp space zero wid prec v;have l2:=zeD wide b true minus sharp space zero wid prec v;generalize textL wide a plus minus sharp space zero wid prec v=A at*
  generalize textL wide b true minus sharp space zero wid prec v=B at*
  refine Ev.bind f1 ?_;refine Ev.congr (λk=>if_pos (by first|rfl|trivial)) ?_;refine Ev.bind f2 ?_;refine Ev.congr (λk=>if_pos (by first|rfl|trivial)) ?_;show Ev (λk=>if 1+(S A).size<=9223372036854775807 then(if((⟨#[40]⟩:ByteArray)++S A).size+(S B).size<=9223372036854775807 then(if(((⟨#[40]⟩:ByteArray)++S A)++S B).size+2<=9223372036854775807 then some ((((⟨#[40]⟩:ByteArray)++S A)++S B)++(⟨#[105,41]⟩:ByteArray),true) else none) else none) else none) _;rw[show(⟨#[40]⟩:ByteArray)=S [40] from rfl,show(⟨#[105,41]⟩:ByteArray)=S [105,41] from rfl,zbC,zbC,zbC];refine Ev.congr (λk=>if_pos (by rw[zat];omega)) ?_;refine Ev.congr (λk=>if_pos (by rw[zat,zat,List.length_append,List.length_singleton];omega)) ?_;refine Ev.congr (λk=>if_pos (by rw[zat,List.length_append,List.length_append,List.length_singleton];omega)) ?_;rw[show([40]++A++B)++[105,41]=[40]++(A++(B++[105,41])) by simp];exact Ev.now _
theorem zf9(wide:Bool){a b:Nat}(ha:a<18446744073709551616)(hb:b<18446744073709551616)(plus minus sharp space zero:Bool)(wid prec v:Int):
 Ev (λk=>za4.f k (a:Int) (b:Int) (szC wide) plus minus sharp space zero wid prec v) (cplxS wide a b plus minus sharp space zero wid prec v):=by
 unfold za4.f;cases wide with
 |false=>exact Ev.congr (λk=>if_pos rfl) (zfO false ha hb plus minus sharp space zero wid prec v)
 |true=>
  refine Ev.congr (λk=>if_neg (by decide)) ?_;exact Ev.congr (λk=>if_pos rfl) (zfO true ha hb plus minus sharp space zero wid prec v)
def isSg(c:UInt8):Bool:=c==43||c==45
def isEx(c:UInt8):Bool:=c==101||c==69||c==112||c==80
def cutN(l:List UInt8):Nat->Nat
  |0=>0
  |i+1=>if isSg (l.getD (i+1) 0)=true/\isEx (l.getD i 0)=false then i+1 else cutN l i
def outL(l:List UInt8)(c:Nat):ByteArray×ByteArray×Bool:=if c=0 then(⟨#[]⟩,⟨#[]⟩,false) else(S (l.take c),S (l.drop c),true)
def splitS(l:List UInt8):ByteArray×ByteArray×Bool:=
  if(Lib.hasPrefix l [40]&&Lib.hasSuffix (Lib.trimPrefix l [40]) [105,41])=true then
    outL (Lib.trimSuffix (Lib.trimPrefix l [40]) [105,41]) (cutN (Lib.trimSuffix (Lib.trimPrefix l [40]) [105,41]) ((Lib.trimSuffix (Lib.trimPrefix l [40]) [105,41]).length-1))
  else(⟨#[]⟩,⟨#[]⟩,false)
theorem zcd(l:List UInt8){i:Nat}(h:i<l.length):bt (S l) (i:Int)=((l.getD i 0).toNat:Int):=by
 rw[bt_L (S l) i (by rw[zat];exact h),List.getD_eq_getElem?_getD,List.getElem?_eq_getElem h];simp[L_S]
theorem zhA(c:UInt8):(Lib.indexByte [101,69,112,80] c<0)↔isEx c=false:=by
 (have key: ∀i:Fin 256,decide (Lib.indexByte [101,69,112,80] (UInt8.ofNat i.val)<0)= !(isEx (UInt8.ofNat i.val)):=by decide+kernel);have h:=key ⟨c.toNat,c.toNat_lt⟩;rw[UInt8.ofNat_toNat] at h;rw[<-decide_eq_true_iff (p:=Lib.indexByte [101,69,112,80] c<0),h];cases isEx c<;>simp
theorem zgZ(c:UInt8):isSg c=true↔((c.toNat:Int)=43\/(c.toNat:Int)=45):=by
 (have key: ∀i:Fin 256,isSg (UInt8.ofNat i.val)=decide (((UInt8.ofNat i.val).toNat:Int)=43\/((UInt8.ofNat i.val).toNat:Int)=45):=by decide+kernel);have h:=key ⟨c.toNat,c.toNat_lt⟩;rw[UInt8.ofNat_toNat] at h;rw[h,decide_eq_true_iff]
theorem zg0(l:List UInt8){c:Nat}(hc:c<=l.length):(if(c:Int)=0 then(some ((⟨#[]⟩:ByteArray),(⟨#[]⟩:ByteArray),false)) else(if 0<=(c:Int) then(if(c:Int)<=((S l).size:Int) then(some ((S l).extract 0 (c:Int).toNat,(S l).extract (c:Int).toNat (S l).size,true)) else(none)) else(none)))=some (outL l c):=by
 unfold outL;by_cases h:c=0
 ·rw[if_pos (by omega),if_pos h]
 ·rw[if_neg (by omega),if_neg h,if_pos (by omega),if_pos (by rw[zat];omega),Int.toNat_natCast,zb2,zeg]
theorem zd4{l:List UInt8}(hl:l.length<=1000000000): ∀i:Nat,i<l.length->Ev (λk=>zal.l0 k (S l) 0 (i:Int)) (outL l (cutN l i))
 |0,h=>by
  refine Ev.step (λk=>by simp only[zal.l0];rfl) ?_
  refine Ev.congr (λk=>if_neg (by decide)) ?_
  exact Ev.congr (λk=>if_pos (by first|rfl|trivial)) (Ev.now _)
 |i+1,h=>by
  have hw:wrap64 (((i+1:Nat):Int)-1)=(i:Int):=by rw[w64 (by omega) (by omega)];omega
  have ih:=zd4 hl i (by omega)
  have hb:=zcd l h
  have B:=zcd l (i:=i) (by omega)
  have hsg:=zgZ (l.getD (i+1) 0)
  have hex:=zhA (l.getD i 0)
  have hcut:cutN l (i+1)=if isSg (l.getD (i+1) 0)=true/\isEx (l.getD i 0)=false then i+1 else cutN l i:=rfl
  refine Ev.step (λk=>by simp only[zal.l0];rfl) ?_
  refine Ev.congr (λk=>if_pos (by omega)) ?_
  refine Ev.congr (λk=>if_pos (by omega)) ?_
  refine Ev.congr (λk=>if_pos (by rw[zat];omega)) ?_
  rw[hb]
  have A:isSg (l.getD (i+1) 0)=true->Ev (λk=>zal.j2 k (S l) 0 ((i+1:Nat):Int) true) (outL l (cutN l (i+1))):=by
   intro hs;refine Ev.step (λk=>by simp only[zal.j2];rfl) ?_;refine Ev.congr (λk=>if_pos (by first|rfl|trivial)) ?_;rw[hw];refine Ev.congr (λk=>if_pos (by omega)) ?_;refine Ev.congr (λk=>if_pos (by rw[zat];omega)) ?_;rw[B];unfold strings_IndexByte.f;simp only[Option.bind_some];(have hu:(((l.getD i 0).toNat:Int)).toNat.toUInt8=l.getD i 0:=by rw[Int.toNat_natCast];exact UInt8.ofNat_toNat);rw[hu];by_cases c:isEx (l.getD i 0)=false
   ·refine Ev.congr (λk=>if_pos (hex.2 c)) ?_;(have hcy:cutN l (i+1)=i+1:=by rw[hcut,if_pos ⟨hs,c⟩]);rw[hcy];exact Ev.congr (λk=>zg0 l (c:=i+1) (by omega)) (Ev.now _)
   ·refine Ev.congr (λk=>if_neg (λe=>c (hex.1 e))) ?_;(have hcn:cutN l (i+1)=cutN l i:=by rw[hcut,if_neg (λe=>c e.2)]);rw[hcn];exact ih
  have D: ¬isSg (l.getD (i+1) 0)=true->Ev (λk=>zal.j2 k (S l) 0 ((i+1:Nat):Int) false) (outL l (cutN l (i+1))):=by
   intro hs
   refine Ev.step (λk=>by simp only[zal.j2];rfl) ?_
   refine Ev.congr (λk=>if_neg (by simp)) ?_
   have hcn:cutN l (i+1)=cutN l i:=by rw[hcut,if_neg (λe=>hs e.1)]
   rw[hw,hcn]
   exact ih
  by_cases c1:(((l.getD (i+1) 0).toNat:Nat):Int)=43
  ·refine Ev.congr (λk=>if_pos c1) ?_
   rw[show((((l.getD (i+1) 0).toNat:Nat):Int)==43)=true from beq_iff_eq.mpr c1]
   exact A (hsg.2 (.inl c1))
  ·refine Ev.congr (λk=>if_neg c1) ?_
   by_cases c2:(((l.getD (i+1) 0).toNat:Nat):Int)=45
   ·rw[show((((l.getD (i+1) 0).toNat:Nat):Int)==45)=true from beq_iff_eq.mpr c2]
    exact A (hsg.2 (.inr c2))
   ·rw[show((((l.getD (i+1) 0).toNat:Nat):Int)==45)=false from beq_eq_false_iff_ne.mpr c2]
    exact D (λe=>(hsg.1 e).elim c1 c2)
theorem zg1(l p:List UInt8):(Lib.trimPrefix l p).length<=l.length:=by
 unfold Lib.trimPrefix;split
 ·rw[List.length_drop];omega
 ·omega
theorem zg2(l p:List UInt8):(Lib.trimSuffix l p).length<=l.length:=by
 unfold Lib.trimSuffix;split
 ·rw[List.length_take];omega
 ·omega
theorem zdO(l:List UInt8)(hl:l.length<=1000000000):Ev (λk=>zal.f k (S l)) (splitS l):=by
 have h1:=zg1 l [40];have h2:=zg2 (Lib.trimPrefix l [40]) [105,41];have e1:strings_CutPrefix.f (S l) (⟨#[40]⟩:ByteArray)=some (S (Lib.trimPrefix l [40]),Lib.hasPrefix l [40]):=rfl;have e2:strings_CutSuffix.f (S (Lib.trimPrefix l [40])) (⟨#[105,41]⟩:ByteArray)=some (S (Lib.trimSuffix (Lib.trimPrefix l [40]) [105,41]),Lib.hasSuffix (Lib.trimPrefix l [40]) [105,41]):=by
  unfold strings_CutSuffix.f;rw[if_pos (by rw[zat];omega)];rfl
 unfold zal.f splitS;rw[e1];simp only[Option.bind_some];rw[e2];simp only[Option.bind_some];generalize Lib.trimSuffix (Lib.trimPrefix l [40]) [105,41]=t at*
 have jn:Ev (λk=>zal.j0 k (S t) true) (⟨#[]⟩,⟨#[]⟩,false):=by
  refine Ev.step (λk=>by simp only[zal.j0];rfl) ?_;exact Ev.congr (λk=>if_pos (by first|rfl|trivial)) (Ev.now _)
 have jy:Ev (λk=>zal.j0 k (S t) false) (outL t (cutN t (t.length-1))):=by
  refine Ev.step (λk=>by simp only[zal.j0];rfl) ?_;refine Ev.congr (λk=>if_neg (by simp)) ?_;rw[zat];cases t with
  |nil=>
   rw[w64 (by decide) (by decide)];refine Ev.step (λk=>by simp only[zal.l0];rfl) ?_;refine Ev.congr (λk=>if_neg (by decide)) ?_;exact Ev.congr (λk=>if_pos (by first|rfl|trivial)) (Ev.now _)
  |cons c t=>
   (have h3:(c::t).length-1<(c::t).length:=by simp);have h:=zd4 (l:=c::t) (by omega) ((c::t).length-1) h3;rw[w64 (by simp) (by omega),show(((c::t).length:Nat):Int)-1=(((c::t).length-1:Nat):Int) by simp];exact h
 cases Lib.hasPrefix l [40] with
 |false=>
  refine Ev.congr (λk=>if_neg (by simp)) ?_;exact jn
 |true=>
  refine Ev.congr (λk=>if_pos rfl) ?_;cases Lib.hasSuffix (Lib.trimPrefix l [40]) [105,41] with
  |false=>exact jn
  |true=>exact jy
theorem zi6:exV true 4607182418800017408=([49],1):=by decide+kernel
theorem zhM:exV true 4611686018427387904=([50],1):=by decide+kernel
theorem ziS:exV true 4609434218613702656=([49,53],1):=by decide+kernel
theorem zfP{p:Nat}(hp:p<ii true){c:UInt8}(h:exV true p=([c],1)):rdX true (dX true (dig c) 0)=p:=by
 have hx:=zi5 true hp;rw[h] at hx;have hv:val [c]=dig c:=by
  have:=zbG [] c;rw[zba] at this;simpa using this
 rw[hv] at hx;(have e:((1:Int)-(([c]:List UInt8).length:Int))=0:=by simp);rw[e] at hx;rw[hx];exact zhw true hp
theorem zg3:shortD true 4611686018427387904=([50],1):=by
 unfold shortD;rw[zhM];show shortGo true _ ([50],1) 1 1=_;rw[zb8,zcz _ _ _ (by decide)];rfl
theorem zga:shortD true 4609434218613702656=([49,53],1):=by
 have r2:=zfP (p:=4611686018427387904) (c:=50) (by decide) zhM;have r1:=zfP (p:=4607182418800017408) (c:=49) (by decide) zi6;rw[show dig 50=2 by decide] at r2;rw[show dig 49=1 by decide] at r1;(have hn:nearU ([49,53],1) 1=2:=by decide+kernel);(have hc:cU ([49,53],1) 1=1:=by decide+kernel);have hE:cE (([49,53],1):List UInt8×Int) 1=0:=rfl;have hb:bestD true 4609434218613702656 ([49,53],1) 1=none:=by
  have n2: ¬isP true 4609434218613702656 2 0:=λe=>absurd (r2.symm.trans e) (by decide);have n1: ¬isP true 4609434218613702656 1 0:=λe=>absurd (r1.symm.trans e) (by decide);have n3: ¬isP true 4609434218613702656 (1+1) 0:=n2;unfold bestD;rw[if_neg (by decide),hn,hc,hE,if_neg n2,if_neg n1,if_neg n3]
 unfold shortD;rw[ziS];show shortGo true _ ([49,53],1) 2 1=_;rw[zb8,hb,Option.getD_none,zb8,zcz _ _ _ (by decide)];rfl
theorem zg4{a p:Nat}{l:List UInt8×Int}(hp:p<ii true)(h0:p≠0)(hb:bareN true a=p)(hs:shortD true p=l)(plus:Bool):textL true a plus false false false false (-1) (-1) 118=signL (a / tt true%2==1) 0 plus false++genL false false l 6 21:=by
 unfold textL;rw[hb,if_pos hp,zhy _ _ _ _ (by decide)];congr 1;unfold restL genOf shortL;rw[show codeV 118=3 from rfl,if_neg (by decide),if_neg (by decide),if_pos rfl,if_pos (by decide),if_neg h0,hs];rfl
theorem zfs:cplxS true 4609434218613702656 13835058055282163712 false false false false false (-1) (-1) 118=(S [40,49,46,53,45,50,105,41],true):=by
 unfold cplxS;rw[show codeV 118=3 from rfl,if_neg (by decide),zg4 (p:=4609434218613702656) (by decide) (by decide) (by decide) zga,zg4 (p:=4611686018427387904) (by decide) (by decide) (by decide) zg3];decide
theorem ziT:Ev (λk=>zaS.f k) true:=by
 have h1:=zf9 true (a:=4609434218613702656) (b:=13835058055282163712) (by decide) (by decide) false false false false false (-1) (-1) 118;rw[zfs] at h1;have h2:=zdO [40,49,101,43,48,54,45,50,105,41] (by decide);rw[show splitS [40,49,101,43,48,54,45,50,105,41]=(S [49,101,43,48,54],S [45,50],true) from by decide] at h2;have h3:=zdO [40,49,105,41] (by decide);rw[show splitS [40,49,105,41]=(⟨#[]⟩,⟨#[]⟩,false) from by decide] at h3;unfold zaS.f;refine Ev.bind (g:=λk=>za4.f k 4609434218613702656 13835058055282163712 128 false false false false false (-1) (-1) 118) h1 ?_;refine Ev.bind (g:=λk=>zal.f k (⟨#[40,49,101,43,48,54,45,50,105,41]⟩:ByteArray)) h2 ?_;refine Ev.bind (g:=λk=>zal.f k (⟨#[40,49,105,41]⟩:ByteArray)) h3 ?_;refine Ev.congr (λk=>?_) (Ev.now _);rw[if_pos rfl,if_pos rfl,if_neg (by simp),if_pos (by rw[zbe,L_S]),if_pos (by rw[zbe,L_S]),zbe,L_S];rfl
theorem zg5:Ev (λk=>(zaS.f k).bind λt=>some t) true:=Ev.bind ziT (Ev.now _)
end Go.Proofs.YtilidabdbhaljaaGreatDoor.Pure
end
section
namespace Go.Proofs.YtilidabdbhaljaaGreatDoor.Fn
open Go.RowKit Go.Proofs.YtilidabdbhaljaaGreatDoorW.PrintWords Go.Proofs.YtilidabdbhaljaaGreatDoorW.PrintLast Go.Proofs.YtilidabdbhaljaaGreatDoorW.PrintMore
set_option maxHeartbeats 8000000
set_option maxRecDepth 100000
section
attribute [local go_sem] fnW_0 fnW_1 fnW_2 fnW_3 fnW_4 fnW_5 fnW_guard fnW_eql zaB zaC zaH zaI
def platenlaw07_CplxSplits.f(k:Nat)(a0:ByteArray):Option (Bool):=if(a0.size:Int)>2000 then(if 0<=2000 then(if 2000<=(a0.size:Int) then((zal.f k (a0.extract 0 2000)).bind λA=>((zae.f k (a0.extract 0 2000)).bind λB=>(if A.1.toList=B.1.toList then(if A.2.1.toList=B.2.1.toList then(if(A.2.2==B.2.2)=true then((zaS.f k).bind λI=>(some I)) else(some false)) else(some false)) else(some false)))) else(none)) else(none)) else((zal.f k a0).bind λD=>((zae.f k a0).bind λE=>(if D.1.toList=E.1.toList then(if D.2.1.toList=E.2.1.toList then(if(D.2.2==E.2.2)=true then((zaS.f k).bind λJ=>(some J)) else(some false)) else(some false)) else(some false))))
theorem platenlaw07_CplxSplits.calls(k:Nat)(a0:ByteArray)(r:Bool)(w:World)(h:platenlaw07_CplxSplits.f k a0=some r):
 Calls Tryz.prog 8 #[.string a0] w λe w'=>e= .returned (.bool r)/\Below w.heap.size w w':=by
 have HB:=zaa.mk (Below.refl w.heap.size w);have H:(if(a0.size:Int)>2000 then(if 0<=2000 then(if 2000<=(a0.size:Int) then((zal.f k (a0.extract 0 2000)).bind λaa=>((zae.f k (a0.extract 0 2000)).bind λab=>(if aa.1.toList=ab.1.toList then(if aa.2.1.toList=ab.2.1.toList then(if(aa.2.2==ab.2.2)=true then((zaS.f k).bind λag=>(some ag)) else(some false)) else(some false)) else(some false)))) else(none)) else(none)) else((zal.f k a0).bind λac=>((zae.f k a0).bind λad=>(if ac.1.toList=ad.1.toList then(if ac.2.1.toList=ad.2.1.toList then(if(ac.2.2==ad.2.2)=true then((zaS.f k).bind λah=>(some ah)) else(some false)) else(some false)) else(some false)))))=some r:=h;clear h;by_cases c2:(a0.size:Int)>2000
 ·replace H:=hE H c2;have au:decide (2000<(a0.size:Int))=true:=decide_eq_true c2;have av:decide (2000<a0.size)=true:=decide_eq_true (by omega);clear c2;obtain⟨aH,aI,H⟩:=hG3 H;obtain⟨aJ,aK,H⟩:=hG3 H;replace H:=bs H;obtain⟨⟨I,J,A⟩,A5,H⟩:=H;dsimp only at H;replace H:=bs H;obtain⟨⟨K,M,B⟩,A6,H⟩:=H;dsimp only at H;by_cases c7:I.toList=K.toList;case neg=>
   replace H:=hN H c7;have aw:(I.toList==K.toList)=false:=beq_eq_false_iff_ne.mpr c7;have ax:(I.toList !=K.toList)=true:=bne_iff_ne.mpr c7;obtain rfl:=Option.some.inj H;go_enter Tryz.func8,Tryz.ntmps8;go_wp2_with (first|((with_reducible refine zac (f:=16) rfl ?_);refine zaO (some 16) rfl rfl Tryz.func16 (by kernel_rfl) rfl #[.string (a0.extract 0 2000)] rfl lz ?_;(with_reducible refine(zal.calls k (a0.extract 0 2000) I J A _ A5.out).mono ?_);rintro e w' ⟨rfl,⟨nd,rfl⟩⟩;refine⟨_,rfl,?_⟩)|((with_reducible refine zac (f:=17) rfl ?_);refine zaO (some 22) rfl rfl Tryz.func17 (by kernel_rfl) rfl #[.string (a0.extract 0 2000)] rfl lz ?_;(with_reducible refine(zae.calls k (a0.extract 0 2000) K M B _ A6.out).mono ?_);rintro e w' ⟨rfl,⟨nd,rfl⟩⟩;refine⟨_,rfl,?_⟩));go_ret;exact⟨ez,bz⟩
  replace H:=hE H c7;have aw:(I.toList==K.toList)=true:=beq_iff_eq.mpr c7;have ax:(I.toList !=K.toList)=false:=bne_eq_false_iff_eq.mpr c7;clear c7;by_cases c8:J.toList=M.toList;case neg=>
   replace H:=hN H c8;have ay:(J.toList==M.toList)=false:=beq_eq_false_iff_ne.mpr c8;have az:(J.toList !=M.toList)=true:=bne_iff_ne.mpr c8;obtain rfl:=Option.some.inj H;go_enter Tryz.func8,Tryz.ntmps8;go_wp2_with (first|((with_reducible refine zac (f:=16) rfl ?_);refine zaO (some 16) rfl rfl Tryz.func16 (by kernel_rfl) rfl #[.string (a0.extract 0 2000)] rfl lz ?_;(with_reducible refine(zal.calls k (a0.extract 0 2000) I J A _ A5.out).mono ?_);rintro e w' ⟨rfl,⟨nd,rfl⟩⟩;refine⟨_,rfl,?_⟩)|((with_reducible refine zac (f:=17) rfl ?_);refine zaO (some 22) rfl rfl Tryz.func17 (by kernel_rfl) rfl #[.string (a0.extract 0 2000)] rfl lz ?_;(with_reducible refine(zae.calls k (a0.extract 0 2000) K M B _ A6.out).mono ?_);rintro e w' ⟨rfl,⟨nd,rfl⟩⟩;refine⟨_,rfl,?_⟩));go_ret;exact⟨ez,bz⟩
  replace H:=hE H c8;have ay:(J.toList==M.toList)=true:=beq_iff_eq.mpr c8;have az:(J.toList !=M.toList)=false:=bne_eq_false_iff_eq.mpr c8;clear c8;by_cases c9:(A==B)=true
  (·replace H:=hE H c9;have aA:(A==B)=true:=c9;(try(have aB:decide (A=B)=true:=by simpa using c9));(try(have aC:(A==B)=true:=by simpa using c9));clear c9;replace H:=bs H;obtain⟨ag,aD,H⟩:=H;obtain rfl:=Option.some.inj H;go_enter Tryz.func8,Tryz.ntmps8;go_wp2_with (first|((with_reducible refine zac (f:=16) rfl ?_);refine zaO (some 16) rfl rfl Tryz.func16 (by kernel_rfl) rfl #[.string (a0.extract 0 2000)] rfl lz ?_;(with_reducible refine(zal.calls k (a0.extract 0 2000) I J A _ A5.out).mono ?_);rintro e w' ⟨rfl,⟨nd,rfl⟩⟩;refine⟨_,rfl,?_⟩)|((with_reducible refine zac (f:=17) rfl ?_);refine zaO (some 22) rfl rfl Tryz.func17 (by kernel_rfl) rfl #[.string (a0.extract 0 2000)] rfl lz ?_;(with_reducible refine(zae.calls k (a0.extract 0 2000) K M B _ A6.out).mono ?_);rintro e w' ⟨rfl,⟨nd,rfl⟩⟩;refine⟨_,rfl,?_⟩)|(go_at_call 15;(with_reducible refine(zaS.calls k ag _ aD.out).mono ?_);rintro e aM ⟨rfl,hb⟩;replace HB:=bN bz hb;(try clear hb);(try clear aE);(try clear hk);(try clear hi)));go_ret;exact⟨ez,bz⟩);replace H:=hN H c9;(have aA:(A==B)=false:=by simpa using c9);(try(have aB:decide (A=B)=false:=by simpa using c9));(try(have aC:(A==B)=false:=by simpa using c9));(try(have aL: ¬(A=B):=by simpa using c9));clear c9;obtain rfl:=Option.some.inj H;go_enter Tryz.func8,Tryz.ntmps8;go_wp2_with (first|((with_reducible refine zac (f:=16) rfl ?_);refine zaO (some 16) rfl rfl Tryz.func16 (by kernel_rfl) rfl #[.string (a0.extract 0 2000)] rfl lz ?_;(with_reducible refine(zal.calls k (a0.extract 0 2000) I J A _ A5.out).mono ?_);rintro e w' ⟨rfl,⟨nd,rfl⟩⟩;refine⟨_,rfl,?_⟩)|((with_reducible refine zac (f:=17) rfl ?_);refine zaO (some 22) rfl rfl Tryz.func17 (by kernel_rfl) rfl #[.string (a0.extract 0 2000)] rfl lz ?_;(with_reducible refine(zae.calls k (a0.extract 0 2000) K M B _ A6.out).mono ?_);rintro e w' ⟨rfl,⟨nd,rfl⟩⟩;refine⟨_,rfl,?_⟩));go_ret;exact⟨ez,bz⟩
 replace H:=hN H c2;have au:decide (2000<(a0.size:Int))=false:=decide_eq_false c2;have av:decide (2000<a0.size)=false:=decide_eq_false (by omega);clear c2;replace H:=bs H;obtain⟨⟨O,U,D⟩,ai,H⟩:=H;dsimp only at H;replace H:=bs H;obtain⟨⟨X,Y,E⟩,aj,H⟩:=H;dsimp only at H;by_cases ae:O.toList=X.toList;case neg=>
  replace H:=hN H ae;have ak:(O.toList==X.toList)=false:=beq_eq_false_iff_ne.mpr ae;have al:(O.toList !=X.toList)=true:=bne_iff_ne.mpr ae;obtain rfl:=Option.some.inj H;go_enter Tryz.func8,Tryz.ntmps8;go_wp2_with (first|((with_reducible refine zac (f:=16) rfl ?_);refine zaO (some 16) rfl rfl Tryz.func16 (by kernel_rfl) rfl #[.string a0] rfl lz ?_;(with_reducible refine(zal.calls k a0 O U D _ ai.out).mono ?_);rintro e w' ⟨rfl,⟨nd,rfl⟩⟩;refine⟨_,rfl,?_⟩)|((with_reducible refine zac (f:=17) rfl ?_);refine zaO (some 22) rfl rfl Tryz.func17 (by kernel_rfl) rfl #[.string a0] rfl lz ?_;(with_reducible refine(zae.calls k a0 X Y E _ aj.out).mono ?_);rintro e w' ⟨rfl,⟨nd,rfl⟩⟩;refine⟨_,rfl,?_⟩));go_ret;exact⟨ez,bz⟩
 replace H:=hE H ae;have ak:(O.toList==X.toList)=true:=beq_iff_eq.mpr ae;have al:(O.toList !=X.toList)=false:=bne_eq_false_iff_eq.mpr ae;clear ae;by_cases af:U.toList=Y.toList;case neg=>
  replace H:=hN H af;have am:(U.toList==Y.toList)=false:=beq_eq_false_iff_ne.mpr af;have an:(U.toList !=Y.toList)=true:=bne_iff_ne.mpr af;obtain rfl:=Option.some.inj H;go_enter Tryz.func8,Tryz.ntmps8;go_wp2_with (first|((with_reducible refine zac (f:=16) rfl ?_);refine zaO (some 16) rfl rfl Tryz.func16 (by kernel_rfl) rfl #[.string a0] rfl lz ?_;(with_reducible refine(zal.calls k a0 O U D _ ai.out).mono ?_);rintro e w' ⟨rfl,⟨nd,rfl⟩⟩;refine⟨_,rfl,?_⟩)|((with_reducible refine zac (f:=17) rfl ?_);refine zaO (some 22) rfl rfl Tryz.func17 (by kernel_rfl) rfl #[.string a0] rfl lz ?_;(with_reducible refine(zae.calls k a0 X Y E _ aj.out).mono ?_);rintro e w' ⟨rfl,⟨nd,rfl⟩⟩;refine⟨_,rfl,?_⟩));go_ret;exact⟨ez,bz⟩
 replace H:=hE H af;have am:(U.toList==Y.toList)=true:=beq_iff_eq.mpr af;have an:(U.toList !=Y.toList)=false:=bne_eq_false_iff_eq.mpr af;clear af;by_cases Z:(D==E)=true
 (·replace H:=hE H Z;have ao:(D==E)=true:=Z;(try(have ap:decide (D=E)=true:=by simpa using Z));(try(have ar:(D==E)=true:=by simpa using Z));clear Z;replace H:=bs H;obtain⟨ah,aF,H⟩:=H;obtain rfl:=Option.some.inj H;go_enter Tryz.func8,Tryz.ntmps8;go_wp2_with (first|((with_reducible refine zac (f:=16) rfl ?_);refine zaO (some 16) rfl rfl Tryz.func16 (by kernel_rfl) rfl #[.string a0] rfl lz ?_;(with_reducible refine(zal.calls k a0 O U D _ ai.out).mono ?_);rintro e w' ⟨rfl,⟨nd,rfl⟩⟩;refine⟨_,rfl,?_⟩)|((with_reducible refine zac (f:=17) rfl ?_);refine zaO (some 22) rfl rfl Tryz.func17 (by kernel_rfl) rfl #[.string a0] rfl lz ?_;(with_reducible refine(zae.calls k a0 X Y E _ aj.out).mono ?_);rintro e w' ⟨rfl,⟨nd,rfl⟩⟩;refine⟨_,rfl,?_⟩)|(go_at_call 15;(with_reducible refine(zaS.calls k ah _ aF.out).mono ?_);rintro e aN ⟨rfl,hb⟩;replace HB:=bN bz hb;(try clear hb);(try clear aE);(try clear hk);(try clear hi)));go_ret;exact⟨ez,bz⟩);replace H:=hN H Z;(have ao:(D==E)=false:=by simpa using Z);(try(have ap:decide (D=E)=false:=by simpa using Z));(try(have ar:(D==E)=false:=by simpa using Z));(try(have aG: ¬(D=E):=by simpa using Z));clear Z;obtain rfl:=Option.some.inj H;go_enter Tryz.func8,Tryz.ntmps8;go_wp2_with (first|((with_reducible refine zac (f:=16) rfl ?_);refine zaO (some 16) rfl rfl Tryz.func16 (by kernel_rfl) rfl #[.string a0] rfl lz ?_;(with_reducible refine(zal.calls k a0 O U D _ ai.out).mono ?_);rintro e w' ⟨rfl,⟨nd,rfl⟩⟩;refine⟨_,rfl,?_⟩)|((with_reducible refine zac (f:=17) rfl ?_);refine zaO (some 22) rfl rfl Tryz.func17 (by kernel_rfl) rfl #[.string a0] rfl lz ?_;(with_reducible refine(zae.calls k a0 X Y E _ aj.out).mono ?_);rintro e w' ⟨rfl,⟨nd,rfl⟩⟩;refine⟨_,rfl,?_⟩));go_ret;exact⟨ez,bz⟩
end
end Go.Proofs.YtilidabdbhaljaaGreatDoor.Fn
end
section
namespace Go.Proofs.YtilidabdbhaljaaGreatDoor.Pure
open Go.RowKit Go.Proofs.YtilidabdbhaljaaGreatDoorW.PrintWords Go.Proofs.YtilidabdbhaljaaGreatDoorW.PrintLast Go.Proofs.YtilidabdbhaljaaGreatDoorW.PrintMore Go.Proofs.YtilidabdbhaljaaGreatDoor.Fn
theorem zfQ(l:List UInt8): ∀i,cutN l i<=i
 |0=>Nat.le_refl _
 |i+1=>by
  have ih:=zfQ l i
  show(if isSg (l.getD (i+1) 0)=true/\isEx (l.getD i 0)=false then i+1 else cutN l i)<=i+1
  split<;>omega
theorem ziU(c:UInt8):isEx c=true↔((c.toNat:Int)=101\/(c.toNat:Int)=69\/(c.toNat:Int)=112\/(c.toNat:Int)=80):=by
 (have key: ∀i:Fin 256,isEx (UInt8.ofNat i.val)=decide (((UInt8.ofNat i.val).toNat:Int)=101\/((UInt8.ofNat i.val).toNat:Int)=69\/((UInt8.ofNat i.val).toNat:Int)=112\/((UInt8.ofNat i.val).toNat:Int)=80):=by decide+kernel);have h:=key ⟨c.toNat,c.toNat_lt⟩;rw[UInt8.ofNat_toNat] at h;rw[h,decide_eq_true_iff]
theorem zdA{t:List UInt8}(ht:t.length<=1000000000): ∀d i:Nat,i+1+d=t.length->
 Ev (λk=>zae.l0 k (S t) (cutN t i:Int) ((i+1:Nat):Int)) (outL t (cutN t (t.length-1)))
 |0,i,h=>by
  have hc:=zfQ t i
  refine Ev.step (λk=>by simp only[zae.l0];rfl) ?_
  refine Ev.congr (λk=>if_neg (by rw[zat];omega)) ?_
  rw[show t.length-1=i by omega]
  exact Ev.congr (λk=>zg0 t (c:=cutN t i) (by omega)) (Ev.now _)
 |d+1,i,h=>by
  have hw:wrap64 (((i+1:Nat):Int)+1)=((i+1+1:Nat):Int):=by rw[w64 (by omega) (by omega)];omega
  have B:wrap64 (((i+1:Nat):Int)-1)=(i:Int):=by rw[w64 (by omega) (by omega)];omega
  have ih:=zdA ht d (i+1) (by omega)
  have hb:=zcd t (i:=i+1) (by omega)
  have D:=zcd t (i:=i) (by omega)
  have hsg:=zgZ (t.getD (i+1) 0)
  have hex:=ziU (t.getD i 0)
  have hcut:cutN t (i+1)=if isSg (t.getD (i+1) 0)=true/\isEx (t.getD i 0)=false then i+1 else cutN t i:=rfl
  refine Ev.step (λk=>by simp only[zae.l0];rfl) ?_
  refine Ev.congr (λk=>if_pos (by rw[zat];omega)) ?_
  refine Ev.congr (λk=>if_pos (by omega)) ?_
  rw[hb]
  have stay:cutN t (i+1)=cutN t i->Ev (λk=>zae.l0 k (S t) (cutN t i:Int) (wrap64 (((i+1:Nat):Int)+1))) (outL t (cutN t (t.length-1))):=by
   intro e;rw[hw,<-e];exact ih
  have E: ¬isSg (t.getD (i+1) 0)=true->Ev (λk=>zae.j2 k (S t) (cutN t i:Int) ((i+1:Nat):Int) true) (outL t (cutN t (t.length-1))):=by
   intro hs
   refine Ev.step (λk=>by simp only[zae.j2];rfl) ?_
   refine Ev.congr (λk=>if_pos (by first|rfl|trivial)) ?_
   exact stay (by rw[hcut,if_neg (λe=>hs e.1)])
  have A:isSg (t.getD (i+1) 0)=true->Ev (λk=>zae.j2 k (S t) (cutN t i:Int) ((i+1:Nat):Int) false) (outL t (cutN t (t.length-1))):=by
   intro hs
   refine Ev.step (λk=>by simp only[zae.j2];rfl) ?_
   refine Ev.congr (λk=>if_neg (by simp)) ?_
   rw[B]
   refine Ev.congr (λk=>if_pos (by omega)) ?_
   refine Ev.congr (λk=>if_pos (by rw[zat];omega)) ?_
   rw[D]
   have yes:isEx (t.getD i 0)=true->cutN t (i+1)=cutN t i:=λe=>by rw[hcut,if_neg (λg=>by rw[e] at g;exact absurd g.2 (by simp))]
   by_cases c1:(((t.getD i 0).toNat:Nat):Int)=101
   ·exact Ev.congr (λk=>if_pos c1) (stay (yes (hex.2 (.inl c1))))
   ·refine Ev.congr (λk=>if_neg c1) ?_
    by_cases c2:(((t.getD i 0).toNat:Nat):Int)=69
    ·exact Ev.congr (λk=>if_pos c2) (stay (yes (hex.2 (.inr (.inl c2)))))
    ·refine Ev.congr (λk=>if_neg c2) ?_
     by_cases c3:(((t.getD i 0).toNat:Nat):Int)=112
     ·exact Ev.congr (λk=>if_pos c3) (stay (yes (hex.2 (.inr (.inr (.inl c3))))))
     ·refine Ev.congr (λk=>if_neg c3) ?_
      by_cases c4:(((t.getD i 0).toNat:Nat):Int)=80
      ·exact Ev.congr (λk=>if_pos c4) (stay (yes (hex.2 (.inr (.inr (.inr c4))))))
      ·refine Ev.congr (λk=>if_neg c4) ?_
       have hn:isEx (t.getD i 0)=false:=by
        cases he:isEx (t.getD i 0) with
        |false=>rfl
        |true=>exact absurd (hex.1 he) (by rintro(e|e|e|e)<;>contradiction)
       have e:cutN t (i+1)=i+1:=by rw[hcut,if_pos ⟨hs,hn⟩]
       rw[e] at ih
       rw[hw]
       exact ih
  by_cases c1:(((t.getD (i+1) 0).toNat:Nat):Int)=43
  ·refine Ev.congr (λk=>if_pos c1) ?_
   exact A (hsg.2 (.inl c1))
  ·refine Ev.congr (λk=>if_neg c1) ?_
   by_cases c2:(((t.getD (i+1) 0).toNat:Nat):Int)=45
   ·rw[show((((t.getD (i+1) 0).toNat:Nat):Int)!=45)=false from bne_eq_false_iff_eq.mpr c2]
    exact A (hsg.2 (.inr c2))
   ·rw[show((((t.getD (i+1) 0).toNat:Nat):Int)!=45)=true from bne_iff_ne.mpr c2]
    exact E (λe=>(hsg.1 e).elim c1 c2)
theorem zgb{t:List UInt8}(ht:t.length<=1000000000):Ev (λk=>zae.l0 k (S t) 0 1) (outL t (cutN t (t.length-1))):=by
 cases t with
 |nil=>
  refine Ev.step (λk=>by simp only[zae.l0];rfl) ?_;refine Ev.congr (λk=>if_neg (by decide)) ?_;exact Ev.congr (λk=>if_pos (by first|rfl|trivial)) (Ev.now _)
 |cons c t=>exact zdA ht t.length 0 (by rw[List.length_cons];omega)
theorem zd5(u:List UInt8)(b c:UInt8):Lib.hasSuffix (u++[b,c]) [105,41]=decide (b=105/\c=41):=by
 rw[Bool.eq_iff_iff,decide_eq_true_iff];unfold Lib.hasSuffix;rw[List.isSuffixOf_iff_suffix];constructor
 ·rintro⟨v,hv⟩;have:=List.append_inj_right' hv rfl;(injection this with h1 h2);(injection h2 with h2);exact⟨h1.symm,h2.symm⟩
 ·rintro⟨rfl,rfl⟩;exact⟨u,rfl⟩
theorem zgc{l p:List UInt8}(h:Lib.hasSuffix l p=true):p.length<=l.length:=by
 unfold Lib.hasSuffix at h;rw[List.isSuffixOf_iff_suffix] at h;exact h.length_le
theorem zd6(a:UInt8)(l:List UInt8):Lib.hasPrefix (a::l) [40]=decide (a=40):=by
 unfold Lib.hasPrefix;by_cases c:a=40
 ·subst c;simp
 ·have:(40==a)=false:=beq_eq_false_iff_ne.mpr (λe=>c e.symm);show(40==a&&[].isPrefixOf l)=_;rw[this,decide_eq_false c];rfl
theorem zfh{l:List UInt8}(h:l.length<3):splitS l=(⟨#[]⟩,⟨#[]⟩,false):=by
 unfold splitS;rw[if_neg];intro e;rw[Bool.and_eq_true] at e;have h2:=zgc e.2;cases l with
 |nil=>simp[Lib.hasPrefix] at e
 |cons a l=>
  (have h3:Lib.trimPrefix (a::l) [40]=l:=by unfold Lib.trimPrefix;rw[if_pos e.1];rfl);rw[h3] at h2;simp at h2 h;omega
theorem zft(a b c:UInt8)(u:List UInt8):splitS (a::(u++[b,c]))=if a=40/\b=105/\c=41 then outL u (cutN u (u.length-1)) else(⟨#[]⟩,⟨#[]⟩,false):=by
 unfold splitS;rw[zd6];by_cases c1:a=40
 ·(have h3:Lib.trimPrefix (a::(u++[b,c])) [40]=u++[b,c]:=by unfold Lib.trimPrefix;rw[zd6,if_pos (by simpa using c1)];rfl);rw[h3,zd5];by_cases c2:b=105/\c=41
  ·(have h4:Lib.trimSuffix (u++[b,c]) [105,41]=u:=by unfold Lib.trimSuffix;rw[zd5,if_pos (by simpa using c2)];simp);rw[h4,if_pos (by simp[c1,c2]),if_pos ⟨c1,c2⟩]
  ·rw[if_neg (by simp only[Bool.and_eq_true,decide_eq_true_iff];exact λe=>c2 e.2),if_neg (λe=>c2 e.2)]
 ·rw[if_neg (by simp only[Bool.and_eq_true,decide_eq_true_iff];exact λe=>c1 e.1),if_neg (λe=>c1 e.1)]
theorem zda{a b:UInt8}{n:Int}(h:(b.toNat:Int)=n):((a.toNat:Int)=n↔a=b):=by
 rw[<-h];constructor
 ·intro e;exact UInt8.toNat.inj (by omega)
 ·intro e;rw[e]
theorem zg6(l:List UInt8)(hl:l.length<=1000000):Ev (λk=>zae.f k (S l)) (splitS l):=by
 unfold zae.f;have no: ∀n:Int,Ev (λk=>zae.j0 k (S l) n true) (⟨#[]⟩,⟨#[]⟩,false):=λn=>by
  refine Ev.step (λk=>by simp only[zae.j0];rfl) ?_;exact Ev.congr (λk=>if_pos (by first|rfl|trivial)) (Ev.now _)
 by_cases c0:l.length<3
 ·refine Ev.congr (λk=>if_pos (by rw[zat];omega)) ?_;rw[zfh c0];exact no _
 ·refine Ev.congr (λk=>if_neg (by rw[zat];omega)) ?_;refine Ev.congr (λk=>if_pos (by rw[zat];omega)) ?_;obtain⟨a,u,b,c,rfl⟩: ∃a u b c,l=a::(u++[b,c]):=by
   cases l with
   |nil=>simp at c0
   |cons a r=>
    rcases List.eq_nil_or_concat r with h|⟨r2,c,h⟩
    ·rw[h] at c0;simp at c0
    ·rcases List.eq_nil_or_concat r2 with h2|⟨u,b,h2⟩
     ·rw[h,h2] at c0;simp at c0
     ·exact⟨a,u,b,c,by rw[h,h2,List.concat_eq_append,List.concat_eq_append,List.append_assoc];rfl⟩
  (have hn:(a::(u++[b,c])).length=u.length+3:=by simp);rw[hn] at hl;have e0:=zcd (a::(u++[b,c])) (i:=0) (by omega);have e1:=zcd (a::(u++[b,c])) (i:=u.length+1) (by omega);have e2:=zcd (a::(u++[b,c])) (i:=u.length+2) (by omega);have g0:(a::(u++[b,c])).getD 0 0=a:=rfl;have g1:(a::(u++[b,c])).getD (u.length+1) 0=b:=by
   rw[List.getD_cons_succ,List.getD_eq_getElem?_getD,List.getElem?_append_right (Nat.le_refl _),Nat.sub_self];rfl
  have g2:(a::(u++[b,c])).getD (u.length+2) 0=c:=by
   rw[List.getD_cons_succ,List.getD_eq_getElem?_getD,List.getElem?_append_right (by omega),show u.length+1-u.length=1 by omega];rfl
  rw[g0] at e0;rw[g1] at e1;rw[g2] at e2;have A:bt (S (a::(u++[b,c]))) 0=(a.toNat:Int):=e0;have ex:(S (a::(u++[b,c]))).extract 1 (u.length+1)=S u:=by
   rw[<-S_L ((S (a::(u++[b,c]))).extract 1 (u.length+1)),zdh,L_S];congr 1;simp
  rw[zat,hn,zft,A];(have w1:wrap64 (((u.length+3:Nat):Int)-2)=((u.length+1:Nat):Int):=by rw[w64 (by omega) (by omega)];omega);(have w2:wrap64 (((u.length+3:Nat):Int)-1)=((u.length+2:Nat):Int):=by rw[w64 (by omega) (by omega)];omega);rw[w1,w2,e1,e2];have ka:=zda (a:=a) (b:=40) (n:=40) rfl;have kb:=zda (a:=b) (b:=105) (n:=105) rfl;have kc:=zda (a:=c) (b:=41) (n:=41) rfl;by_cases ca:a=40
  ·refine Ev.congr (λk=>if_pos (ka.2 ca)) ?_;refine Ev.congr (λk=>if_pos (by omega)) ?_;refine Ev.congr (λk=>if_pos (by omega)) ?_;by_cases cb:b=105
   ·refine Ev.congr (λk=>if_pos (kb.2 cb)) ?_;refine Ev.congr (λk=>if_pos (by omega)) ?_;refine Ev.congr (λk=>if_pos (by omega)) ?_;by_cases cc:c=41
    ·rw[if_pos ⟨ca,cb,cc⟩,show(((c.toNat:Nat):Int)!=41)=false from bne_eq_false_iff_eq.mpr (kc.2 cc)];refine Ev.step (λk=>by simp only[zae.j0];rfl) ?_;refine Ev.congr (λk=>if_neg (by simp)) ?_;rw[w1];refine Ev.congr (λk=>if_pos (by omega)) ?_;refine Ev.congr (λk=>if_pos (by rw[zat,hn];omega)) ?_;rw[Int.toNat_natCast,ex];exact zgb (by omega)
    ·rw[if_neg (λe=>cc e.2.2),show(((c.toNat:Nat):Int)!=41)=true from bne_iff_ne.mpr (λe=>cc (kc.1 e))];exact no _
   ·refine Ev.congr (λk=>if_neg (λe=>cb (kb.1 e))) ?_;rw[if_neg (λe=>cb e.2.1)];exact no _
  ·refine Ev.congr (λk=>if_neg (λe=>ca (ka.1 e))) ?_;rw[if_neg (λe=>ca e.1)];exact no _
theorem CplxSplits: ∀(a0:ByteArray),a0.size<=maxLen-> ∃k,platenlaw07_CplxSplits.f k a0=some true:=by
 intro s _;refine Ev.rounds (g:=λk=>platenlaw07_CplxSplits.f k s) ?_;unfold platenlaw07_CplxSplits.f;have both: ∀t:ByteArray,t.size<=2000->Ev (λk=>(zal.f k t).bind λx=>((zae.f k t).bind λy=>(if x.1.toList=y.1.toList then(if x.2.1.toList=y.2.1.toList then(if(x.2.2==y.2.2)=true then((zaS.f k).bind λb=>(some b)) else(some false)) else(some false)) else(some false)))) true:=by
  intro t ht;have h1:=zdO (L t) (by rw[<-zbB];omega);have h2:=zg6 (L t) (by rw[<-zbB];omega);rw[S_L] at h1 h2;refine Ev.bind h1 (Ev.bind h2 ?_);refine Ev.congr (λk=>if_pos rfl) ?_;refine Ev.congr (λk=>if_pos rfl) ?_;exact Ev.congr (λk=>if_pos (beq_self_eq_true _)) zg5
 by_cases c:(s.size:Int)>2000
 ·refine Ev.congr (λk=>if_pos c) ?_;refine Ev.congr (λk=>if_pos (by decide)) ?_;refine Ev.congr (λk=>if_pos (by omega)) ?_;exact both _ (by rw[ByteArray.size_extract];omega)
 ·refine Ev.congr (λk=>if_neg c) ?_;exact both s (by omega)
end Go.Proofs.YtilidabdbhaljaaGreatDoor.Pure
end
