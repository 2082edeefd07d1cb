/- The law CplxTexts: the walks through its functions and its plain law (part 7). Own texts and the kit's printed words for this seat, without what the law does not use: put together by merge.py (of this work). -/
import Derived.Test.YtilidabdbhaljaaGreatDoorMCplxTexts6
import Derived.Handy
set_option linter.unusedVariables false
set_option linter.unusedSimpArgs false
section
namespace Go.Proofs.YtilidabdbhaljaaGreatDoor.Pure
open Go.RowKit Go.Proofs.YtilidabdbhaljaaGreatDoorW.PrintWords Go.Proofs.YtilidabdbhaljaaGreatDoor.Fn
theorem zgO(u:Int):(S ([49]:List UInt8),u+1)=(S (decOf 1 u).1,(decOf 1 u).2):=by
 unfold decOf;rw[if_neg (by omega)];have h1:digs 1=[49]:=rfl;rw[h1];have h2:rz [49]=[49]:=rfl;rw[h2];simp;omega
theorem zj9{l:List UInt8}(h:AllD l){p:Int}(hl:l.length<=2000)(hp: -5000<=p/\p<=5000):normS (S l) p=(S (decOf (val l) (p-l.length)).1,(decOf (val l) (p-l.length)).2,0):=by
 unfold normS normTail;rw[if_neg (by rw[zas];omega),L_S,if_pos (zip h),if_neg (by omega),if_neg (by omega),zcC h];rfl
theorem zc4{n k:Nat}{e:Int}(h:n<10^k)(hk:k<=1400)(he: -3000<=e)(h2:e+k<=3000):(decOf n e).1.length<=2000/\ -5000<=(decOf n e).2/\(decOf n e).2<=5000:=by
 have:=zcl h e;omega
structure Val (wide : Bool) (p : Nat) (v : List UInt8 × Int) : Prop where
  form : InForm v.1 v.2
  len : v.1.length <= 1300
  lo : -1200 <= v.2
  hi : v.2 <= 1300
def cU(v:List UInt8×Int)(n:Nat):Nat:=val (v.1.take n)
def cE(v:List UInt8×Int)(n:Nat):Int:=v.2-n
def isP(wide:Bool)(p:Nat)(n:Nat)(x:Int):Prop:=rdX wide (dX wide n x)=p
instance (wide : Bool) (p n : Nat) (x : Int) : Decidable (isP wide p n x) := by unfold isP; infer_instance
def nearU(v:List UInt8×Int)(n:Nat):Nat:=if downP v.1 n then cU v n else cU v n+1
def bestD(wide:Bool)(p:Nat)(v:List UInt8×Int)(n:Nat):Option (List UInt8×Int):=
  if v.1.length<=n then some v
  else if isP wide p (nearU v n) (cE v n) then some (decOf (nearU v n) (cE v n))
  else if isP wide p (cU v n) (cE v n) then some (decOf (cU v n) (cE v n))
  else if isP wide p (cU v n+1) (cE v n) then some (decOf (cU v n+1) (cE v n)) else none
def optD(o:Option (List UInt8×Int)):ByteArray×Int×Bool:=match o with
  |some d=>(S d.1,d.2,true)
  |none=>(⟨#[]⟩,0,false)
structure Span (wide : Bool) (p : Nat) (lo hi : List UInt8 × Int) : Prop where
  f1 : InForm lo.1 lo.2
  f2 : InForm hi.1 hi.2
  b1 : lo.1.length <= 2000 /\ -5000 <= lo.2 /\ lo.2 <= 5000
  b2 : hi.1.length <= 2000 /\ -5000 <= hi.2 /\ hi.2 <= 5000
  c1 : ∀ (n : Nat) (x : Int), -(vv : Int) <= x -> cmpD lo.1 lo.2 (decOf n x).1 (decOf n x).2 = cmpN (loX wide p) (dX wide n x)
  c2 : ∀ (n : Nat) (x : Int), -(vv : Int) <= x -> cmpD hi.1 hi.2 (decOf n x).1 (decOf n x).2 = cmpN (hiX wide p) (dX wide n x)
theorem ziZ{wide:Bool}{p:Nat}{lo hi:List UInt8×Int}(hs:Span wide p lo hi)(hp:0<p)(A:p<ii wide){n k:Nat}{e:Int}(h:n<10^k)(hk:k<=1400)(he: -3000<=e)(h2:e+k<=3000):
 Ev (λr=>za3.f r (S lo.1) lo.2 (S hi.1) hi.2 (decide (p%2=0)) (S (decOf n e).1) (decOf n e).2) (decide (isP wide p n e)):=by
 have hv:=zdr;exact zms wide p _ rfl rfl rfl hs.f1 hs.f2 (zbx n e) hs.b1 hs.b2 (zc4 h hk he h2) (hs.c1 n e (by omega)) (hs.c2 n e (by omega)) _ (by rw[decide_eq_true_iff];exact(zmo wide hp A _).symm)
theorem zi0{wide:Bool}{p:Nat}{v:List UInt8×Int}(hv:Val wide p v)(n:Nat)(hn:n<v.1.length):cU v n<10^n:=by
 have:=zc2 (hv.form.1.take n);rw[List.length_take,Nat.min_eq_left (by omega)] at this;exact this
theorem zfa(v:List UInt8×Int)(n:Nat):nearU v n=cU v n\/nearU v n=cU v n+1:=by
 unfold nearU;split
 ·exact .inl rfl
 ·exact .inr rfl
theorem ziv{wide:Bool}{p:Nat}{v:List UInt8×Int}(hv:Val wide p v)(n:Nat)(hn:n<v.1.length):roundN v.1 v.2 (n:Int)=decOf (nearU v n) (cE v n):=by
 unfold roundN nearU cU cE;rw[if_neg (by omega),if_neg (by omega),Int.toNat_natCast];by_cases c:downP v.1 n
 ·rw[if_pos c,if_pos c]
 ·rw[if_neg c,if_neg c]
theorem Val.five{wide:Bool}{p:Nat}{v:List UInt8×Int}(hv:Val wide p v):v.1.length<=2000/\ -5000<=v.2/\v.2<=5000:=by
 have:=hv.len;have:=hv.lo;have:=hv.hi;omega
theorem ziw{wide:Bool}{p:Nat}{lo hi v:List UInt8×Int}(hs:Span wide p lo hi)(hv:Val wide p v)(hp:0<p)(A:p<ii wide)(n:Nat):
 Ev (λk=>zbw.f k (S v.1) v.2 (n:Int) (S lo.1) lo.2 (S hi.1) hi.2 (decide (p%2=0))) (optD (bestD wide p v n)):=by
 have hl:=hv.len;have hlo:=hv.lo;have hhi:=hv.hi;have h5:=hv.five;unfold zbw.f bestD;rw[zas];by_cases c1:v.1.length<=n
 ·rw[if_pos c1];exact eP (by omega) (Ev.now _)
 ·rw[if_neg c1];refine eN (by omega) ?_;(have hn:n<v.1.length:=by omega);have hu:=zi0 hv n hn;have B:cU v n+1<10^(n+1):=by
   rw[Nat.pow_succ];have:1<=10^n:=Nat.pow_pos (by omega);omega
  (have hE: -3000<=cE v n/\cE v n+((n+1:Nat):Int)<=3000:=by unfold cE;omega);(have hnr:nearU v n<10^(n+1):=by rcases zfa v n with h|h<;>rw[h]<;>omega);have hr:=zgJ (S v.1) v.2 (n:Int);have e1:roundS (S v.1) v.2 (λ_=>(n:Int))=(S (decOf (nearU v n) (cE v n)).1,(decOf (nearU v n) (cE v n)).2,0):=by
   unfold roundS;rw[zcN hv.form h5.1 h5.2,if_pos rfl];simp only[L_S];rw[ziv hv n hn];rfl
  rw[e1] at hr;refine Ev.bind hr ?_;refine Ev.bind (ziZ hs hp A hnr (by omega) hE.1 hE.2) ?_;by_cases c2:isP wide p (nearU v n) (cE v n)
  ·rw[if_pos c2];refine eP (decide_eq_true c2) (Ev.now _)
  ·rw[if_neg c2];refine eN (λh=>c2 (of_decide_eq_true h)) ?_;refine eP (by omega) ?_;refine eP (by omega) ?_;rw[Int.toNat_natCast,zcE];have hnm:=zeu (S (v.1.take n)) v.2;(have htl:(v.1.take n).length=n:=by rw[List.length_take,Nat.min_eq_left (by omega)]);rw[zj9 (hv.form.1.take n) (by omega) h5.2,htl] at hnm;rw[show val (v.1.take n)=cU v n from rfl,show v.2-(n:Int)=cE v n from rfl] at hnm;refine Ev.bind hnm ?_;have hw:wrap64 (wrap64 (v.2-(n:Int))+1)=cE v n+1:=by
    unfold cE;rw[zaF (x:=v.2-(n:Int)) (by omega) (by omega),zaF (by omega) (by omega)]
   rw[hw];have hone:=zgO (cE v n);have D:(S ([49]:List UInt8))=S (decOf 1 (cE v n)).1:=congrArg Prod.fst hone;have E:cE v n+1=(decOf 1 (cE v n)).2:=congrArg Prod.snd hone;have hadd:=zmg (S (decOf (cU v n) (cE v n)).1) (decOf (cU v n) (cE v n)).2 (S (decOf 1 (cE v n)).1) (decOf 1 (cE v n)).2;(have hE':cE v n+(n:Int)<=3000:=by omega);(have I:cE v n+((1:Nat):Int)<=3000:=by omega);rw[zmh (zbx _ _) (zbx _ _) (zc4 hu (by omega) hE.1 hE') (zc4 (n:=1) (k:=1) (by decide) (by decide) hE.1 I)] at hadd;have e2:addD (decOf (cU v n) (cE v n)).1 (decOf (cU v n) (cE v n)).2 (decOf 1 (cE v n)).1 (decOf 1 (cE v n)).2=(S (decOf (cU v n+1) (cE v n)).1,(decOf (cU v n+1) (cE v n)).2,0):=by
    unfold addD;rw[zdJ,if_neg (by have:=(zc4 B (by omega) hE.1 hE.2).1;omega)];rfl
   rw[e2,<-D,<-E] at hadd;refine Ev.bind (g:=λk=>zaR.f k (S (decOf (cU v n) (cE v n)).1) (decOf (cU v n) (cE v n)).2 (⟨#[49]⟩:ByteArray) (cE v n+1)) hadd ?_;refine Ev.step (λk=>by simp only[zbw.l0];rfl) ?_;refine eP (by simp) ?_;refine eP (by simp) ?_;refine Ev.bind (ziZ hs hp A hu (by omega) hE.1 hE') ?_;by_cases c3:isP wide p (cU v n) (cE v n)
   ·rw[if_pos c3];exact eP (decide_eq_true c3) (Ev.now _)
   ·rw[if_neg c3];refine eN (λh=>c3 (of_decide_eq_true h)) ?_;rw[show wrap64 ((0:Int)+1)=1 by simp[wrap64]];refine Ev.step (λk=>by simp only[zbw.l0];rfl) ?_;refine eP (by simp) ?_;refine eN (by simp) ?_;refine eP (by simp) ?_;refine Ev.bind (ziZ hs hp A B (by omega) hE.1 hE.2) ?_;by_cases c4:isP wide p (cU v n+1) (cE v n)
    ·rw[if_pos c4];exact eP (decide_eq_true c4) (Ev.now _)
    ·rw[if_neg c4];refine eN (λh=>c4 (of_decide_eq_true h)) ?_;rw[show wrap64 ((1:Int)+1)=2 by simp[wrap64]];refine Ev.step (λk=>by simp only[zbw.l0];rfl) ?_;exact eN (by simp) (Ev.now _)
def shortGo(wide:Bool)(p:Nat)(v:List UInt8×Int):Nat->Nat->List UInt8×Int
  |0,_=>v
  |d+1,n=>match bestD wide p v n with
    |some r=>r
    |none=>shortGo wide p v d (n+1)
theorem zdy(wide:Bool)(p:Nat)(v:List UInt8×Int){n:Nat}(h:v.1.length<=n):bestD wide p v n=some v:=by
 unfold bestD;rw[if_pos h]
theorem zmt{wide:Bool}{p:Nat}{lo hi v:List UInt8×Int}(hs:Span wide p lo hi)(hv:Val wide p v)(hp:0<p)(A:p<ii wide): ∀(d n:Nat),v.1.length<=n+d->n<=2000->
 Ev (λk=>zaV.l0 k (n:Int) (S v.1) v.2 (S lo.1) lo.2 (S hi.1) hi.2 (decide (p%2=0))) (S (shortGo wide p v d n).1,(shortGo wide p v d n).2,0):=by
 intro d;induction d with
 |zero=>
  intro n h hn;have hb:=ziw hs hv hp A n;rw[zdy wide p v (n:=n) h] at hb;refine Ev.step (λk=>by simp only[zaV.l0];rfl) ?_;refine Ev.bind hb ?_;exact eP rfl (Ev.now _)
 |succ d ih=>
  intro n h hn;have hb:=ziw hs hv hp A n;refine Ev.step (λk=>by simp only[zaV.l0];rfl) ?_;refine Ev.bind hb ?_;unfold shortGo;cases hbd:bestD wide p v n with
  |some r=>exact eP rfl (Ev.now _)
  |none=>
   refine eN (by decide) ?_;have hlen:=hv.len;have B:n<v.1.length:=by
    refine Nat.lt_of_not_le λc=>?_;rw[zdy wide p v c] at hbd;cases hbd
   rw[zaF (by omega) (by omega),show((n:Int)+1)=((n+1:Nat):Int) by omega];exact ih (n+1) (by omega) (by omega)
def exV(wide:Bool)(p:Nat):List UInt8×Int:=exD (fM (ff wide) p) ((fE (ff wide) p:Int)-(ll wide:Int))
theorem zfq(wide:Bool){p:Nat}(hp:p<ii wide):Val wide p (exV wide p):=by
 have h1:=fEl wide (Nat.le_of_lt hp);have h2:=zdT wide (Nat.le_of_lt hp);have h:=zdK (m:=fM (ff wide) p) (by omega) (e:=(fE (ff wide) p:Int)-(ll wide:Int)) (by omega);exact⟨zd6 _ _,h.1,h.2.1,h.2.2⟩
def shortD(wide:Bool)(p:Nat):List UInt8×Int:=shortGo wide p (exV wide p) (exV wide p).1.length 1
def shortS(wide:Bool)(a:Nat):ByteArray×Int×Int:=
  if ii wide<=bareN wide a then(⟨#[]⟩,0,1) else if bareN wide a=0 then(⟨#[]⟩,0,0) else(S (shortD wide (bareN wide a)).1,(shortD wide (bareN wide a)).2,0)
theorem zmu(wide:Bool){p:Nat}(hp:0<p)(hi:p<ii wide){lo:List UInt8×Int}(f1:InForm lo.1 lo.2)(b1:lo.1.length<=2000/\ -5000<=lo.2/\lo.2<=5000)
 (c1: ∀(n:Nat) (x:Int),-(vv:Int)<=x->cmpD lo.1 lo.2 (decOf n x).1 (decOf n x).2=cmpN (loX wide p) (dX wide n x)):
 Span wide p lo (exD (2*fM (ff wide) p+1) ((fE (ff wide) p:Int)-(ll wide:Int)-1)):=by
 have h1:=fEl wide (Nat.le_of_lt hi);have h2:=zdT wide (Nat.le_of_lt hi);have h:=zdK (m:=2*fM (ff wide) p+1) (by omega) (e:=(fE (ff wide) p:Int)-(ll wide:Int)-1) (by omega);exact⟨f1,zd6 _ _,b1,by omega,c1,λn x hx=>znl wide p n x hx⟩
theorem zlH{wide:Bool}{p:Nat}{lo hi:List UInt8×Int}(hs:Span wide p lo hi)(hp:0<p)(A:p<ii wide):
 Ev (λk=>zaV.j1 k (p:Int) (ff wide:Int) (-(ll wide:Int)) (ii wide:Int) (S lo.1) lo.2 (S hi.1) hi.2 (decide (p%2=0))) (S (shortD wide p).1,(shortD wide p).2,0):=by
 refine Ev.step (λk=>by simp only[zaV.j1];rfl) ?_;have hsh:=zg1 wide (Nat.le_of_lt A);refine Ev.bind hsh ?_;exact zmt hs (zfq wide A) hp A (exV wide p).1.length 1 (by omega) (by omega)
theorem zh2(wide:Bool)(a:Nat)(ha:a<18446744073709551616):Ev (λk=>zaV.f k (a:Int) (szB wide)) (shortS wide a):=by
 obtain⟨j,hj,ht,hw⟩:=zjv wide;have hi:=zeh wide;have hmt:=Nat.mod_lt a (zfn wide).1;have htt:=(zfn wide).2;unfold zaV.f;rw[zju];simp only[Option.bind_some,if_true];rw[hw];refine eP (by omega) ?_;rw[zfF _ hj,zeJ _ _ (by omega) ha,<-ht];unfold shortS bareN;obtain⟨p,hp⟩: ∃p,a%tt wide=p:=⟨_,rfl⟩;rw[hp] at hmt ⊢;by_cases c1:ii wide<=p
 ·rw[if_pos c1];exact eP (by omega) (Ev.now _)
 ·rw[if_neg c1];refine eN (by omega) ?_;rw[zfG wide p (by omega)];simp only[Option.bind_some];by_cases c2:p=0
  ·rw[if_pos c2];(have h0:fM (ff wide) p=0:=by rw[c2];cases wide<;>decide);exact eP (by omega) (Ev.now _)
  ·rw[if_neg c2];(have A:0<p:=by omega);(have hlt:p<ii wide:=by omega);have hm:=zhH (f:=ff wide) A;refine eN (by omega) ?_;have h1:=fEl wide (Nat.le_of_lt hlt);have h2:=zdT wide (Nat.le_of_lt hlt);obtain⟨e,he⟩: ∃e:Int,(fE (ff wide) p:Int)-(ll wide:Int)=e:=⟨_,rfl⟩;have B:=zmr wide A;have D:=zmq wide A;have hsp:=λlo=> @zmu wide p A hlt lo;have hll:=zdL wide;rw[he] at h1 D B hsp ⊢;obtain⟨m,hmm⟩: ∃m,fM (ff wide) p=m:=⟨_,rfl⟩;rw[hmm] at hm h2 D B hsp ⊢;have e1:IntKind.u64.wrap (IntKind.u64.wrap (2*(m:Int))+1)=((2*m+1:Nat):Int):=by
    rw[show(2:Int)*(m:Int)=((2*m:Nat):Int) by omega,u64N _ (by omega),show(((2*m:Nat):Int)+1)=((2*m+1:Nat):Int) by omega,u64N _ (by omega)]
   have e2:IntKind.u64.wrap (IntKind.u64.wrap (2*(m:Int))-1)=((2*m-1:Nat):Int):=by
    rw[show(2:Int)*(m:Int)=((2*m:Nat):Int) by omega,u64N _ (by omega),show(((2*m:Nat):Int)-1)=((2*m-1:Nat):Int) by omega,u64N _ (by omega)]
   have e4:IntKind.u64.wrap (IntKind.u64.wrap (4*(m:Int))-1)=((4*m-1:Nat):Int):=by
    rw[show(4:Int)*(m:Int)=((4*m:Nat):Int) by omega,u64N _ (by omega),show(((4*m:Nat):Int)-1)=((4*m-1:Nat):Int) by omega,u64N _ (by omega)]
   have w1:wrap64 (e-1)=e-1:=zaF (by omega) (by omega);have w2:wrap64 (e-2)=e-2:=zaF (by omega) (by omega);have x1:=zd4 (2*m+1) (e-1) (by omega);rw[zcW _ (by omega)] at x1;have x2:=zd4 (2*m-1) (e-1) (by omega);rw[zcW _ (by omega)] at x2;have x4:=zd4 (4*m-1) (e-2) (by omega);rw[zcW _ (by omega)] at x4;have s2:=zdK (m:=2*m-1) (by omega) (e:=e-1) (by omega);have s4:=zdK (m:=4*m-1) (by omega) (e:=e-2) (by omega);rw[e1,w1,e2];refine Ev.bind x1 ?_;refine Ev.bind x2 ?_;refine eP (by omega) ?_;have hpar:(Int.tmod (m:Int) 2==0)=decide (p%2=0):=by
    rw[show(2:Int)=((2:Nat):Int) from rfl,tmodN];have hq:p%2=m%2:=by
     obtain⟨g1,_⟩:=fOf (ff wide) p;rw[hmm] at g1;obtain⟨u,hu⟩: ∃u,ff wide=u+1:=⟨ff wide-1,(Nat.sub_add_cancel (Nat.le_trans (by decide) (zez wide).1)).symm⟩;rw[hu,Nat.pow_succ,<-Nat.mul_assoc] at g1;generalize fE (u+1) p*2^u=G at g1;rw[g1];omega
    rw[hq,Bool.eq_iff_iff];simp;omega
   rw[hpar,zgl _ (Nat.le_trans (zg7 wide) (by decide))]
   -- the two ways behind
   have E:m≠2^ff wide\/fE (ff wide) p=0->Ev (λk=>zaV.j1 k (p:Int) (ff wide:Int) (-(ll wide:Int)) (ii wide:Int) (S (exD (2*m-1) (e-1)).1) (exD (2*m-1) (e-1)).2 (S (exD (2*m+1) (e-1)).1) (exD (2*m+1) (e-1)).2 (decide (p%2=0))) (S (shortD wide p).1,(shortD wide p).2,0):=λh=>
    zlH (hsp _ (zd6 _ _) (by omega) (λn x hx=>D h n x hx)) A hlt
   by_cases c3:m=2^ff wide
   ·refine eP (by rw[c3]) ?_;by_cases c4:fE (ff wide) p=0
    ·rw[show decide (e> -(ll wide:Int))=false from decide_eq_false (by omega)];refine Ev.step (λk=>by simp only[zaV.j0];rfl) ?_;exact eN (by decide) (E (.inr c4))
    ·rw[show decide (e> -(ll wide:Int))=true from decide_eq_true (by omega)];refine Ev.step (λk=>by simp only[zaV.j0];rfl) ?_;refine eP (by simp) ?_;rw[e4,w2];refine Ev.bind x4 ?_;exact zlH (hsp _ (zd6 _ _) (by omega) (λn x hx=>B c3 c4 n x hx)) A hlt
   ·refine eN (λh=>c3 (Int.ofNat.inj h)) ?_;refine Ev.step (λk=>by simp only[zaV.j0];rfl) ?_;exact eN (by decide) (E (.inl c3))
end Go.Proofs.YtilidabdbhaljaaGreatDoor.Pure
end
section
namespace Go.Proofs.YtilidabdbhaljaaGreatDoor.Fn
open Go.RowKit Go.Proofs.YtilidabdbhaljaaGreatDoorW.PrintWords Go.Proofs.YtilidabdbhaljaaGreatDoorW.PrintLast Go.Proofs.YtilidabdbhaljaaGreatDoorW.PrintMore
set_option maxHeartbeats 8000000
set_option maxRecDepth 100000
section
attribute [local go_sem] fnW_0 fnW_1 fnW_2 fnW_3 fnW_4 fnW_5 fnW_guard fnW_eql zaC zaD zaI zaJ
def zbI.f(k:Nat)(E:Int)(I:Int)(B:Int)(D:Int)(J:Int)(K:Bool)(M:Int):Option (ByteArray×Int):=(zaE.f k B D).bind λA=>(some (A.1,A.2.1))
theorem zbI.calls(k:Nat)(Z:Int)(aa:Int)(E:Int)(I:Int)(ab:Int)(ac:Bool)(ad:Int)(r1:ByteArray)(r2:Int)(w:World)(h:zbI.f k Z aa E I ab ac ad=some (r1,r2)):
 Calls Tryz.prog 66 #[.agg #[.int .u64 Z,.int .i64 aa,.int .u64 E,.int .i64 I,.int .i64 ab,.bool ac,.int .i32 ad]] w λe w'=>e= .returned (.agg #[.string r1,.int .i64 r2])/\Below w.heap.size w w':=by
 have aO:=Tryz.underlying52;have aP:=Tryz.underlying74;have HB:=zaa.mk (Below.refl w.heap.size w);have H:((zaE.f k E I).bind λae=>(some (ae.1,ae.2.1)))=some (r1,r2):=h;clear h;replace H:=bs H;obtain⟨⟨af,ag,ai⟩,A2,H⟩:=H;dsimp only at H;obtain⟨rfl,rfl⟩:=o2 H;go_enter Tryz.func66,Tryz.ntmps66;go_wp2_with (first|((with_reducible refine zae (N:=1) rfl ?_);refine zaf rfl (N:=1) rfl (cs:=#[.int .u64 Z,.int .i64 aa,.int .u64 E,.int .i64 I,.int .i64 ab,.bool ac,.int .i32 ad]) (t:=52) gz ?_;intro A hg w3 hbox hb;have aI:=gN bz hg;have D:=zaa.mk hbox;replace HB:=bN bz hb;clear hb hbox hg)|((with_reducible refine zae (N:=2) rfl ?_);refine zaf rfl (N:=2) rfl (cs:=#[.string (⟨#[]⟩:ByteArray),.int .i64 0]) (t:=74) gz ?_;intro B hg w4 hbox hb;have aJ:=gN bz hg;have J:=lN (g:=A) hg bk;have K:=rN (g:=A) hg bk;replace D:=kN (g:=A) hb bk;have M:=zaa.mk hbox;replace HB:=bN bz hb;clear hb hbox hg;have aQ:=J.out;have aR:=K.out;obtain⟨au,av,aw,ax,ay,az,aA,aB,aC,aD,aE,aF,aG,aH⟩:=cz7 D)|((with_reducible refine zac (f:=102) rfl ?_);refine gB Tryz.func102 (zaE.calls k E I af ag ai _ A2.out) ?_;intro w7 hb;replace D:=kN (g:=A) hb bk;replace M:=kN (g:=B) hb bk;replace HB:=bN bz hb;clear hb)|((with_reducible refine zae (N:=3) rfl ?_);refine zaf rfl (N:=3) rfl (cs:=#[.string (⟨#[]⟩:ByteArray),.int .i64 0]) (t:=74) gz ?_;intro aK hg w8 hbox hb;have aL:=gN bz hg;have O:=lN (g:=A) hg bk;have U:=rN (g:=A) hg bk;have X:=lN (g:=B) hg bk;have Y:=rN (g:=B) hg bk;replace D:=kN (g:=A) hb bk;replace M:=kN (g:=B) hb bk;have ah:=zaa.mk hbox;replace HB:=bN bz hb;clear hb hbox hg;have aS:=U.out;have aT:=O.out;have aM:=Y.out;have aN:=X.out;obtain⟨aj,ak,al,am⟩:=cz2 ah;obtain⟨an,ao,ap,ar⟩:=cz2 M));refine bodyPost_ret (results_cell_row rfl _ _ B 74 #[.string af,.int .i64 ag] (0,0) _ rfl bk Tryz.underlying74 rfl (by kernel_rfl)) rfl ?_;exact⟨ez,bz⟩
def zaQ.j0:Nat->Int->Int->Int->Int->Int->Int->Bool->Int->Option (ByteArray)
 |0,_,_,_,_,_,_,_,_=>none
 |k+1,x3,A,B,D,E,I,J,K=>(zbI.f k A B D E I J K).bind λO=>((zbY.f k O.1 O.2 (wrap64 (x3+1))).bind λM=>((zbC.f M.1 (wrap64 (x3+1))).bind λU=>((zcc.f M.1 M.2.1).bind λX=>((zaG.f k A B D E I J K U X).bind λY=>(some Y)))))
def zaQ.f(k:Nat)(B:Int)(D:Int)(E:Int)(I:Int)(A:Int)(J:Bool)(K:Int):Option (ByteArray):=if A<0 then(zaQ.j0 k 6 B D E I A J K) else(zaQ.j0 k A B D E I A J K)
def zaQ.T5:Bool×List (List Nat×List Nat):=(true,[([],[]),([],[]),([1],[1]),([],[]),([3],[3]),([2,4],[2,4]),([],[]),([6,5],[6]),([0,5,7,7],[0,5,7]),([8,8,0,1,2,3,4,5,6,7,8],[8])])
def zaQ.B5:List Nat:=[0,0,2,0,8,30,0,126,255,511]
theorem zaQ.tab5:rtab .any (opsOf Tryz.f39 5)=zaQ.T5:=by kernel_rfl
theorem zaQ.bits5:waitsOk zaQ.T5.2 zaQ.B5=true:=by kernel_rfl
theorem zaQ.calls(k:Nat)(I:Int)(J:Int)(M:Int)(O:Int)(B:Int)(U:Bool)(X:Int)(r:ByteArray)(w:World)(h:zaQ.f k I J M O B U X=some r):
  Calls Tryz.prog 39 #[.agg #[.int .u64 I,.int .i64 J,.int .u64 M,.int .i64 O,.int .i64 B,.bool U,.int .i32 X]] w λe w'=>e= .returned (.string r)/\Below w.heap.size w w':=by
 have a8:=Tryz.underlying52;have a9:=Tryz.underlying74;have HB:=zaa.mk (Below.refl w.heap.size w);have H:(if B<0 then(zaQ.j0 k 6 I J M O B U X) else(zaQ.j0 k B I J M O B U X))=some r:=h;clear h;have aC:=zaa.mk H;clear H;go_enter Tryz.func39,Tryz.ntmps39;(go_upto_if 9 with(first|((with_reducible refine zae (N:=1) rfl ?_);refine zaf rfl (N:=1) rfl (cs:=#[.int .u64 I,.int .i64 J,.int .u64 M,.int .i64 O,.int .i64 B,.bool U,.int .i32 X]) (t:=52) gz ?_;intro D hg w3 hbox hb;have a2:=gN bz hg;have A:=zaa.mk hbox;replace HB:=bN bz hb;clear hb hbox hg;obtain⟨ag,ah,ai,aj,ak,al,am,an,ao,ap,ar,au,av,aw⟩:=cz7 A)));(try simp only[Act.put,sA]);go_cut [3] (λv3 wc=> ∃(kq:Nat) (ac:Int),v3= .int .i64 ac/\zaa (zaQ.j0 kq ac I J M O B U X=some r)/\zaa (kq<=k)/\zaa (wc.heap[D]? =some (.cells #[.int .u64 I,.int .i64 J,.int .u64 M,.int .i64 O,.int .i64 B,.bool U,.int .i32 X] 52 (0,0)))/\zaa (Below w.heap.size w wc));case first=>
  have H:=aC.out;clear aC;by_cases c5:B<0
  (·replace H:=hE H c5;have af:=decide_eq_true c5;clear c5;(try rw[af]);have H':=zaa.mk H;clear H;go_wp2;go_meet;case rel=>exact⟨_,(6),rz,H',⟨by first|omega|exact Nat.le_refl _⟩,⟨bk⟩,⟨bz⟩⟩);replace H:=hN H c5;have af:=decide_eq_false c5;clear c5;(try rw[af]);have H':=zaa.mk H;clear H;go_wp2;go_meet;case rel=>exact⟨_,(B),rz,H',⟨by first|omega|exact Nat.le_refl _⟩,⟨bk⟩,⟨bz⟩⟩
 case rest=>
  clear aC;(try clear ag ah ai aj ak al am an ao ap ar au av aw);obtain⟨kq,ac,rfl,HA,ba,A,HB⟩:=hcut;cases kq with
  |zero=>exact absurd HA.out (by simp[zaQ.j0])
  |succ aD=>
   have H:=HA.out;clear HA;simp only[zaQ.j0] at H;replace H:=bs H;obtain⟨⟨ay,az⟩,A6,H⟩:=H;dsimp only at H;replace H:=bs H;obtain⟨⟨Z,aa,aH⟩,A7,H⟩:=H;dsimp only at H;replace H:=bs H;obtain⟨aA,A8,H⟩:=H;replace H:=bs H;obtain⟨aB,A9,H⟩:=H;replace H:=bs H;obtain⟨aI,a3,H⟩:=H;obtain rfl:=Option.some.inj H;obtain⟨aJ,aK,aL,aM,aN,aO,aP,aQ,aR,aS,aT,aU,aV,aW⟩:=cz7 A;(try go_wp2_with (first|((with_reducible refine zac (f:=66) rfl ?_);refine gB Tryz.func66 (zbI.calls aD I J M O B U X ay az _ A6.out) ?_;intro bb hb;replace A:=kN (g:=D) (cs:=#[.int .u64 I,.int .i64 J,.int .u64 M,.int .i64 O,.int .i64 B,.bool U,.int .i32 X]) hb bk;replace HB:=bN bz hb;clear hb)|((with_reducible refine zac (f:=65) rfl ?_);refine gB Tryz.func65 (zbY.calls aD ay az (wrap64 (ac+1)) Z aa aH _ A7.out) ?_;intro bd hb;replace A:=kN (g:=D) (cs:=#[.int .u64 I,.int .i64 J,.int .u64 M,.int .i64 O,.int .i64 B,.bool U,.int .i32 X]) hb bk;replace HB:=bN bz hb;clear hb)|((with_reducible refine zae (N:=4) rfl ?_);refine zaf rfl (N:=4) rfl (cs:=#[.string (⟨#[]⟩:ByteArray),.int .i64 0]) (t:=74) gz ?_;intro Y hg ax hbox hb;have a4:=gN bz hg;have ad:=lN (g:=D) (cs:=#[.int .u64 I,.int .i64 J,.int .u64 M,.int .i64 O,.int .i64 B,.bool U,.int .i32 X]) hg bk;have ae:=rN (g:=D) (cs:=#[.int .u64 I,.int .i64 J,.int .u64 M,.int .i64 O,.int .i64 B,.bool U,.int .i32 X]) hg bk;replace A:=kN (g:=D) (cs:=#[.int .u64 I,.int .i64 J,.int .u64 M,.int .i64 O,.int .i64 B,.bool U,.int .i32 X]) hb bk;have E:=zaa.mk hbox;replace HB:=bN bz hb;clear hb hbox hg;have a5:=ae.out;have a6:=ad.out;obtain⟨aX,aY,aZ,a1⟩:=cz2 E)));have aE:zaa (((ax.setCell ⟨Y,0,none⟩ (.string Z)).setCell ⟨Y,1,none⟩ (.int .i64 aa)).heap[D]? =some (.cells #[.int .u64 I,.int .i64 J,.int .u64 M,.int .i64 O,.int .i64 B,.bool U,.int .i32 X] 52 (0,0))):=⟨bk⟩;have aF:zaa (((ax.setCell ⟨Y,0,none⟩ (.string Z)).setCell ⟨Y,1,none⟩ (.int .i64 aa)).heap[Y]? =some (.cells #[.string Z,.int .i64 aa] 74 (0,0))):=⟨bk⟩;have aG:zaa (Below w.heap.size w ((ax.setCell ⟨Y,0,none⟩ (.string Z)).setCell ⟨Y,1,none⟩ (.int .i64 aa))):=⟨bz⟩;(try clear A);(try clear E);(try clear HB);generalize ((ax.setCell ⟨Y,0,none⟩ (.string Z)).setCell ⟨Y,1,none⟩ (.int .i64 aa))=a7 at aE aF aG ⊢;have A:=aE;have E:=aF;have HB:=aG;clear aE aF aG;replace A:=zaa.mk (zat A.out);replace E:=zaa.mk (zat E.out);replace HB:=zaa.mk (zaT HB.out);refine zbv (n:=10) (S:=λw'=>w'.cell? ⟨D,0,none⟩=some (.int .u64 I)/\w'.cell? ⟨D,1,none⟩=some (.int .i64 J)/\w'.cell? ⟨D,2,none⟩=some (.int .u64 M)/\w'.cell? ⟨D,3,none⟩=some (.int .i64 O)/\w'.cell? ⟨D,4,none⟩=some (.int .i64 B)/\w'.cell? ⟨D,5,none⟩=some (.bool U)/\w'.cell? ⟨D,6,none⟩=some (.int .i32 X)/\w'.cell? ⟨Y,0,none⟩=some (.string Z)/\w'.cell? ⟨Y,1,none⟩=some (.int .i64 aa)) (ds:=[]) #[false,false,false,false,false,false,false,false,false,false] (by kernel_rfl) rfl rfl ⟨(zab A.out 0).trans rfl,(zab A.out 1).trans rfl,(zab A.out 2).trans rfl,(zab A.out 3).trans rfl,(zab A.out 4).trans rfl,(zab A.out 5).trans rfl,(zab A.out 6).trans rfl,(zab E.out 0).trans rfl,(zab E.out 1).trans rfl⟩ (λhHeld=>?_);refine zbj zaQ.tab5 zaQ.bits5 (λab HW_=>?_);generalize a7.drew=be at A E HB hHeld ⊢;refine pz (i:=1) (N:=19) ab ?_;refine pz (i:=3) (N:=21) ab ?_;refine pz (i:=4) (N:=22) ab ?_;refine tz (i:=0) (N:=18) rfl ab HW_ hHeld (by(rintro w' ⟨s0,s1,s2,s3,s4,s5,s6,s7,s8⟩;go_simp;with_reducible rfl)) ?_;refine tz (i:=2) (N:=20) rfl ab HW_ hHeld (by(rintro w' ⟨s0,s1,s2,s3,s4,s5,s6,s7,s8⟩;go_simp;with_reducible rfl)) ?_;refine tz (i:=6) (N:=24) rfl ab HW_ hHeld (by(rintro w' ⟨s0,s1,s2,s3,s4,s5,s6,s7,s8⟩;go_simp;with_reducible rfl)) ?_;refine oz (i:=5) (N:=some 23) ab λK hK=>?_;refine gG Tryz.func68 (zbC.calls Z (wrap64 (ac+1)) aA _ A8.out) ?_;intro bf hb;replace A:=kN (g:=D) (cs:=#[.int .u64 I,.int .i64 J,.int .u64 M,.int .i64 O,.int .i64 B,.bool U,.int .i32 X]) hb bk;replace E:=kN (g:=Y) (cs:=#[.string Z,.int .i64 aa]) hb bk;replace HB:=bN bz hb;clear hb;refine hK.out _ _ ⟨bc A 0,bc A 1,bc A 2,bc A 3,bc A 4,bc A 5,bc A 6,bc E 0,bc E 1⟩ (λhHeld=>?_);clear hK K;refine nz ?_;refine oz (i:=7) (N:=some 25) ab λK hK=>?_;refine gG Tryz.func69 (zcc.calls Z aa aB _ A9.out) ?_;intro bg hb;replace A:=kN (g:=D) (cs:=#[.int .u64 I,.int .i64 J,.int .u64 M,.int .i64 O,.int .i64 B,.bool U,.int .i32 X]) hb bk;replace E:=kN (g:=Y) (cs:=#[.string Z,.int .i64 aa]) hb bk;replace HB:=bN bz hb;clear hb;refine hK.out _ _ ⟨bc A 0,bc A 1,bc A 2,bc A 3,bc A 4,bc A 5,bc A 6,bc E 0,bc E 1⟩ (λhHeld=>?_);clear hK K;refine nz ?_;refine oz (i:=8) (N:=some 26) ab λK hK=>?_;refine gG Tryz.func67 (zaG.calls aD I J M O B U X aA aB aI _ a3.out) ?_;intro bh hb;replace A:=kN (g:=D) (cs:=#[.int .u64 I,.int .i64 J,.int .u64 M,.int .i64 O,.int .i64 B,.bool U,.int .i32 X]) hb bk;replace E:=kN (g:=Y) (cs:=#[.string Z,.int .i64 aa]) hb bk;replace HB:=bN bz hb;clear hb;refine hK.out _ _ ⟨bc A 0,bc A 1,bc A 2,bc A 3,bc A 4,bc A 5,bc A 6,bc E 0,bc E 1⟩ (λhHeld=>?_);clear hK K;refine nz ?_;refine pz (i:=9) (N:=2) ab ?_;refine dz ab ?_;(try go_wp2);go_ret;exact⟨ez,bz⟩
def zaH.j0:Nat->Int->Int->Int->Int->Int->Int->Bool->Int->Option (ByteArray)
 |0,_,_,_,_,_,_,_,_=>none
 |k+1,x3,B,D,E,I,J,K,M=>(zbI.f k B D E I J K M).bind λO=>((zcx.f k O.1 O.2 x3).bind λA=>(if A.1.toList=([]:List UInt8) then((strings_Repeat.f (⟨#[48]⟩:ByteArray) x3).bind λX=>((za5.f B D E I J K M (⟨#[48]⟩:ByteArray) X).bind λY=>(some Y))) else(if A.2.1<=0 then((strings_Repeat.f (⟨#[48]⟩:ByteArray) (wrap64 (-A.2.1))).bind λU=>(if U.size+A.1.size<=9223372036854775807 then((zbC.f (U++A.1) x3).bind λZ=>((za5.f B D E I J K M (⟨#[48]⟩:ByteArray) Z).bind λaa=>(some aa))) else(none))) else((zbC.f A.1 (wrap64 (A.2.1+x3))).bind λab=>((zaW.f B D E I J K M ab A.2.1).bind λac=>(some ac))))))
def zaH.f(k:Nat)(B:Int)(D:Int)(E:Int)(I:Int)(A:Int)(J:Bool)(K:Int):Option (ByteArray):=if A<0 then(zaH.j0 k 6 B D E I A J K) else(zaH.j0 k A B D E I A J K)
def zaH.T8:Bool×List (List Nat×List Nat):=(true,[([],[]),([],[]),([1],[1]),([2],[2]),([3],[3]),([],[]),([5],[5]),([4,6],[4,6]),([],[]),([7,8,4],[7,8]),([0,9,9],[0,9]),([10,10,0,1,2,3,4,5,6,7,8,9,10],[10])])
def zaH.B8:List Nat:=[0,0,2,6,14,0,32,126,0,510,1023,2047]
theorem zaH.tab8:rtab .any (opsOf Tryz.f40 8)=zaH.T8:=by kernel_rfl
theorem zaH.bits8:waitsOk zaH.T8.2 zaH.B8=true:=by kernel_rfl
def zaH.T9:Bool×List (List Nat×List Nat):=(true,[([],[]),([],[]),([1],[1]),([],[]),([3],[3]),([],[]),([4,5],[4,5]),([2,6],[2,6]),([],[]),([8],[8]),([0,7,9,7],[0,7,9]),([10,10,0,1,2,3,4,5,6,7,8,9,10],[10])])
def zaH.B9:List Nat:=[0,0,2,0,8,0,56,126,0,256,1023,2047]
theorem zaH.tab9:rtab .any (opsOf Tryz.f40 9)=zaH.T9:=by kernel_rfl
theorem zaH.bits9:waitsOk zaH.T9.2 zaH.B9=true:=by kernel_rfl
theorem zaH.calls(k:Nat)(U:Int)(X:Int)(Y:Int)(Z:Int)(M:Int)(aa:Bool)(ab:Int)(r:ByteArray)(w:World)(h:zaH.f k U X Y Z M aa ab=some r):
  Calls Tryz.prog 40 #[.agg #[.int .u64 U,.int .i64 X,.int .u64 Y,.int .i64 Z,.int .i64 M,.bool aa,.int .i32 ab]] w λe w'=>e= .returned (.string r)/\Below w.heap.size w w':=by
 have bP:=Tryz.underlying52;have bQ:=Tryz.underlying74;have HB:=zaa.mk (Below.refl w.heap.size w);have H:(if M<0 then(zaH.j0 k 6 U X Y Z M aa ab) else(zaH.j0 k M U X Y Z M aa ab))=some r:=h;clear h;have aM:=zaa.mk H;clear H;go_enter Tryz.func40,Tryz.ntmps40;(go_upto_if 9 with(first|((with_reducible refine zae (N:=1) rfl ?_);refine zaf rfl (N:=1) rfl (cs:=#[.int .u64 U,.int .i64 X,.int .u64 Y,.int .i64 Z,.int .i64 M,.bool aa,.int .i32 ab]) (t:=52) gz ?_;intro E hg w3 hbox hb;have bn:=gN bz hg;have A:=zaa.mk hbox;replace HB:=bN bz hb;clear hb hbox hg;obtain⟨ap,ar,au,av,aw,ax,ay,az,aA,aB,aC,aD,aE,aF⟩:=cz7 A)));(try simp only[Act.put,sA]);go_cut [3] (λv3 wc=> ∃(kq:Nat) (af:Int),v3= .int .i64 af/\zaa (zaH.j0 kq af U X Y Z M aa ab=some r)/\zaa (kq<=k)/\zaa (wc.heap[E]? =some (.cells #[.int .u64 U,.int .i64 X,.int .u64 Y,.int .i64 Z,.int .i64 M,.bool aa,.int .i32 ab] 52 (0,0)))/\zaa (Below w.heap.size w wc));case first=>
  have H:=aM.out;clear aM;by_cases c5:M<0
  (·replace H:=hE H c5;have ao:=decide_eq_true c5;clear c5;(try rw[ao]);have H':=zaa.mk H;clear H;go_wp2;go_meet;case rel=>exact⟨_,(6),rz,H',⟨by first|omega|exact Nat.le_refl _⟩,⟨bk⟩,⟨bz⟩⟩);replace H:=hN H c5;have ao:=decide_eq_false c5;clear c5;(try rw[ao]);have H':=zaa.mk H;clear H;go_wp2;go_meet;case rel=>exact⟨_,(M),rz,H',⟨by first|omega|exact Nat.le_refl _⟩,⟨bk⟩,⟨bz⟩⟩
 case rest=>
  clear aM;(try clear ap ar au av aw ax ay az aA aB aC aD aE aF);obtain⟨kq,af,rfl,HA,bR,A,HB⟩:=hcut;cases kq with
  |zero=>exact absurd HA.out (by simp[zaH.j0])
  |succ aP=>
   have H:=HA.out;clear HA;simp only[zaH.j0] at H;replace H:=bs H;obtain⟨⟨aG,aH⟩,A6,H⟩:=H;dsimp only at H;replace H:=bs H;obtain⟨⟨I,J,aQ⟩,A7,H⟩:=H;dsimp only at H;obtain⟨a7,a8,a9,ba,bb,bd,be,bf,bg,bh,bi,bj,bl,bm⟩:=cz7 A;(go_upto_if 17 with(first|((with_reducible refine zac (f:=66) rfl ?_);refine gB Tryz.func66 (zbI.calls aP U X Y Z M aa ab aG aH _ A6.out) ?_;intro w9 hb;replace A:=kN (g:=E) hb bk;replace HB:=bN bz hb;clear hb)|((with_reducible refine zac (f:=70) rfl ?_);refine gB Tryz.func70 (zcx.calls aP aG aH af I J aQ _ A7.out) ?_;intro bS hb;replace A:=kN (g:=E) hb bk;replace HB:=bN bz hb;clear hb)|((with_reducible refine zae (N:=4) rfl ?_);refine zaf rfl (N:=4) rfl (cs:=#[.string (⟨#[]⟩:ByteArray),.int .i64 0]) (t:=74) gz ?_;intro D hg ae hbox hb;have bo:=gN bz hg;have ac:=lN (g:=E) hg bk;have ad:=rN (g:=E) hg bk;replace A:=kN (g:=E) hb bk;have B:=zaa.mk hbox;replace HB:=bN bz hb;clear hb hbox hg;have bp:=ad.out;have bq:=ac.out;obtain⟨aR,aS,aT,aU⟩:=cz2 B)));(try simp only[Act.put,sA]);by_cases ak:I.toList=([]:List UInt8)
   ·replace H:=hE H ak;have ag:(I.toList==([]:List UInt8))=true:=beq_iff_eq.mpr ak;have al:(I.toList !=([]:List UInt8))=false:=bne_eq_false_iff_eq.mpr ak;(have am:I.toList.isEmpty=true:=by simpa using ag);clear ak;(try first|rw[ag]|rw[al]|rw[am]);replace H:=bs H;obtain⟨aI,br,H⟩:=H;replace H:=bs H;obtain⟨aV,bu,H⟩:=H;obtain rfl:=Option.some.inj H;(try go_wp2);have ah:zaa (((ae.setCell ⟨D,0,none⟩ (.string I)).setCell ⟨D,1,none⟩ (.int .i64 J)).heap[E]? =some (.cells #[.int .u64 U,.int .i64 X,.int .u64 Y,.int .i64 Z,.int .i64 M,.bool aa,.int .i32 ab] 52 (0,0))):=⟨bk⟩;have ai:zaa (((ae.setCell ⟨D,0,none⟩ (.string I)).setCell ⟨D,1,none⟩ (.int .i64 J)).heap[D]? =some (.cells #[.string I,.int .i64 J] 74 (0,0))):=⟨bk⟩;have aj:zaa (Below w.heap.size w ((ae.setCell ⟨D,0,none⟩ (.string I)).setCell ⟨D,1,none⟩ (.int .i64 J))):=⟨bz⟩;(try clear A);(try clear B);(try clear HB);generalize ((ae.setCell ⟨D,0,none⟩ (.string I)).setCell ⟨D,1,none⟩ (.int .i64 J))=bv at ah ai aj ⊢;have A:=ah;have B:=ai;have HB:=aj;clear ah ai aj;replace A:=zaa.mk (zat A.out);replace B:=zaa.mk (zat B.out);replace HB:=zaa.mk (zaT HB.out);refine zbv (n:=5) (S:=λw'=>w'.cell? ⟨E,0,none⟩=some (.int .u64 U)/\w'.cell? ⟨E,1,none⟩=some (.int .i64 X)/\w'.cell? ⟨E,2,none⟩=some (.int .u64 Y)/\w'.cell? ⟨E,3,none⟩=some (.int .i64 Z)/\w'.cell? ⟨E,4,none⟩=some (.int .i64 M)/\w'.cell? ⟨E,5,none⟩=some (.bool aa)/\w'.cell? ⟨E,6,none⟩=some (.int .i32 ab)) (ds:=[]) #[false,false,false,false,false] (by kernel_rfl) rfl rfl ⟨(zab A.out 0).trans rfl,(zab A.out 1).trans rfl,(zab A.out 2).trans rfl,(zab A.out 3).trans rfl,(zab A.out 4).trans rfl,(zab A.out 5).trans rfl,(zab A.out 6).trans rfl⟩ (λhHeld=>?_);generalize bv.drew=bU at A B HB hHeld ⊢;refine zb9 (i:=1) (N:=some 22) (v:=?_) (a':=?_) #[false,true,false,false,false] rfl rfl (by kernel_rfl) (λ_ _ _ h=>h) (Or.inl ⟨by rfl,?_⟩) ?_ ?_;rotate_left
    (·intro w';go_simp;with_reducible rfl);rotate_left
    (·simp only[Act.put,sA,zbb,zbo];rfl);refine zc1 (i:=0) (N:=some 21) (v:=?_) (a':=?_) #[true,true,false,false,false] rfl rfl (by kernel_rfl) (λ_ _ _ h=>h) (Or.inl ⟨by rfl,?_⟩) hHeld ?_ ?_;rotate_left
    (·rintro w' ⟨s0,s1,s2,s3,s4,s5,s6⟩;go_simp;with_reducible rfl);rotate_left
    (·simp only[Act.put,sA,zbb,zbo];rfl);refine one_ (i:=2) (N:=some 23) #[true,true,true,false,false] rfl rfl (by kernel_rfl) (by decide) (λK hK=>?_);refine gG Tryz.func44 (strings_Repeat.calls (⟨#[48]⟩:ByteArray) af aI _ br.out) ?_;intro bV hb;replace A:=kN (g:=E) hb bk;replace B:=kN (g:=D) hb bk;replace HB:=bN bz hb;clear hb;refine hK.out _ _ (d7 A) (λhHeld=>?_);clear hK K;refine nz ?_;refine one_ (i:=3) (N:=some 24) #[true,true,true,true,false] rfl rfl (by kernel_rfl) (by decide) (λK hK=>?_);refine gG Tryz.func71 (za5.calls U X Y Z M aa ab (⟨#[48]⟩:ByteArray) aI aV _ bu.out) ?_;intro bW hb;replace A:=kN (g:=E) hb bk;replace B:=kN (g:=D) hb bk;replace HB:=bN bz hb;clear hb;refine hK.out _ _ (d7 A) (λhHeld=>?_);clear hK K;refine nz ?_;refine zb9 (i:=4) (N:=some 2) (v:=?_) (a':=?_) #[true,true,true,true,true] rfl rfl (by kernel_rfl) (λ_ _ _ h=>h) (Or.inl ⟨by rfl,?_⟩) ?_ ?_;rotate_left
    (·intro w';go_simp;with_reducible rfl);rotate_left
    (·simp only[Act.put,sA,zbb,zbo];rfl);refine zdO (by kernel_rfl) ?_;(try go_wp2);go_ret;exact⟨ez,bz⟩
   replace H:=hN H ak;have ag:(I.toList==([]:List UInt8))=false:=beq_eq_false_iff_ne.mpr ak;have al:(I.toList !=([]:List UInt8))=true:=bne_iff_ne.mpr ak;(have am:I.toList.isEmpty=false:=by simpa using ag);(try first|rw[ag]|rw[al]|rw[am]);by_cases an:J<=0;case neg=>
    replace H:=hN H an;have aN:=decide_eq_false an;clear an;replace H:=bs H;obtain⟨aL,bJ,H⟩:=H;replace H:=bs H;obtain⟨a2,bK,H⟩:=H;obtain rfl:=Option.some.inj H;have bL:=ad.out;have bM:=ac.out;obtain⟨a3,a4,a5,a6⟩:=cz2 B;(try go_wp2);have ah:zaa (((ae.setCell ⟨D,0,none⟩ (.string I)).setCell ⟨D,1,none⟩ (.int .i64 J)).heap[E]? =some (.cells #[.int .u64 U,.int .i64 X,.int .u64 Y,.int .i64 Z,.int .i64 M,.bool aa,.int .i32 ab] 52 (0,0))):=⟨bk⟩;have ai:zaa (((ae.setCell ⟨D,0,none⟩ (.string I)).setCell ⟨D,1,none⟩ (.int .i64 J)).heap[D]? =some (.cells #[.string I,.int .i64 J] 74 (0,0))):=⟨bk⟩;have aj:zaa (Below w.heap.size w ((ae.setCell ⟨D,0,none⟩ (.string I)).setCell ⟨D,1,none⟩ (.int .i64 J))):=⟨bz⟩;(try clear A);(try clear B);(try clear HB);generalize ((ae.setCell ⟨D,0,none⟩ (.string I)).setCell ⟨D,1,none⟩ (.int .i64 J))=bO at ah ai aj ⊢;have A:=ah;have B:=ai;have HB:=aj;clear ah ai aj;replace A:=zaa.mk (zat A.out);replace B:=zaa.mk (zat B.out);replace HB:=zaa.mk (zaT HB.out);refine zbv (n:=12) (S:=λw'=>w'.cell? ⟨E,0,none⟩=some (.int .u64 U)/\w'.cell? ⟨E,1,none⟩=some (.int .i64 X)/\w'.cell? ⟨E,2,none⟩=some (.int .u64 Y)/\w'.cell? ⟨E,3,none⟩=some (.int .i64 Z)/\w'.cell? ⟨E,4,none⟩=some (.int .i64 M)/\w'.cell? ⟨E,5,none⟩=some (.bool aa)/\w'.cell? ⟨E,6,none⟩=some (.int .i32 ab)/\w'.cell? ⟨D,0,none⟩=some (.string I)/\w'.cell? ⟨D,1,none⟩=some (.int .i64 J)) (ds:=[]) #[false,false,false,false,false,false,false,false,false,false,false,false] (by kernel_rfl) rfl rfl ⟨(zab A.out 0).trans rfl,(zab A.out 1).trans rfl,(zab A.out 2).trans rfl,(zab A.out 3).trans rfl,(zab A.out 4).trans rfl,(zab A.out 5).trans rfl,(zab A.out 6).trans rfl,(zab B.out 0).trans rfl,(zab B.out 1).trans rfl⟩ (λhHeld=>?_);refine zbj zaH.tab9 zaH.bits9 (λO HW_=>?_);generalize bO.drew=b1 at A B HB hHeld ⊢;refine pz (i:=1) (N:=41) O ?_;refine pz (i:=3) (N:=43) O ?_;refine pz (i:=5) (N:=45) O ?_;refine pz (i:=8) (N:=48) O ?_;refine tz (i:=0) (N:=40) rfl O HW_ hHeld (by(rintro w' ⟨s0,s1,s2,s3,s4,s5,s6,s7,s8⟩;go_simp;with_reducible rfl)) ?_;refine tz (i:=2) (N:=42) rfl O HW_ hHeld (by(rintro w' ⟨s0,s1,s2,s3,s4,s5,s6,s7,s8⟩;go_simp;with_reducible rfl)) ?_;refine tz (i:=4) (N:=44) rfl O HW_ hHeld (by(rintro w' ⟨s0,s1,s2,s3,s4,s5,s6,s7,s8⟩;go_simp;with_reducible rfl)) ?_;refine pz (i:=6) (N:=46) O ?_;refine tz (i:=9) (N:=49) rfl O HW_ hHeld (by(rintro w' ⟨s0,s1,s2,s3,s4,s5,s6,s7,s8⟩;go_simp;with_reducible rfl)) ?_;refine oz (i:=7) (N:=some 47) O λK hK=>?_;refine gG Tryz.func68 (zbC.calls I (wrap64 (J+af)) aL _ bJ.out) ?_;intro b2 hb;replace A:=kN (g:=E) hb bk;replace B:=kN (g:=D) hb bk;replace HB:=bN bz hb;clear hb;refine hK.out _ _ ⟨bc A 0,bc A 1,bc A 2,bc A 3,bc A 4,bc A 5,bc A 6,bc B 0,bc B 1⟩ (λhHeld=>?_);clear hK K;refine nz ?_;refine oz (i:=10) (N:=some 50) O λK hK=>?_;refine gG Tryz.func72 (zaW.calls U X Y Z M aa ab aL J a2 _ bK.out) ?_;intro b3 hb;replace A:=kN (g:=E) hb bk;replace B:=kN (g:=D) hb bk;replace HB:=bN bz hb;clear hb;refine hK.out _ _ ⟨bc A 0,bc A 1,bc A 2,bc A 3,bc A 4,bc A 5,bc A 6,bc B 0,bc B 1⟩ (λhHeld=>?_);clear hK K;refine nz ?_;refine pz (i:=11) (N:=2) O ?_;refine dz O ?_;(try go_wp2);go_ret;exact⟨ez,bz⟩
   replace H:=hE H an;have aN:=decide_eq_true an;clear an;replace H:=bs H;obtain⟨aJ,bw,H⟩:=H;obtain⟨aO,H⟩:=hG H;have bA:=eq_true aO;have bB:=decide_eq_true aO;have bC:=eq_false (Nat.not_lt.2 aO);replace H:=bs H;obtain⟨aK,bD,H⟩:=H;replace H:=bs H;obtain⟨aW,bE,H⟩:=H;obtain rfl:=Option.some.inj H;have bG:=ad.out;have bH:=ac.out;obtain⟨aX,aY,aZ,a1⟩:=cz2 B;(try go_wp2);have ah:zaa (((ae.setCell ⟨D,0,none⟩ (.string I)).setCell ⟨D,1,none⟩ (.int .i64 J)).heap[E]? =some (.cells #[.int .u64 U,.int .i64 X,.int .u64 Y,.int .i64 Z,.int .i64 M,.bool aa,.int .i32 ab] 52 (0,0))):=⟨bk⟩;have ai:zaa (((ae.setCell ⟨D,0,none⟩ (.string I)).setCell ⟨D,1,none⟩ (.int .i64 J)).heap[D]? =some (.cells #[.string I,.int .i64 J] 74 (0,0))):=⟨bk⟩;have aj:zaa (Below w.heap.size w ((ae.setCell ⟨D,0,none⟩ (.string I)).setCell ⟨D,1,none⟩ (.int .i64 J))):=⟨bz⟩;(try clear A);(try clear B);(try clear HB);generalize ((ae.setCell ⟨D,0,none⟩ (.string I)).setCell ⟨D,1,none⟩ (.int .i64 J))=bI at ah ai aj ⊢;have A:=ah;have B:=ai;have HB:=aj;clear ah ai aj;replace A:=zaa.mk (zat A.out);replace B:=zaa.mk (zat B.out);replace HB:=zaa.mk (zaT HB.out);refine zbv (n:=12) (S:=λw'=>w'.cell? ⟨E,0,none⟩=some (.int .u64 U)/\w'.cell? ⟨E,1,none⟩=some (.int .i64 X)/\w'.cell? ⟨E,2,none⟩=some (.int .u64 Y)/\w'.cell? ⟨E,3,none⟩=some (.int .i64 Z)/\w'.cell? ⟨E,4,none⟩=some (.int .i64 M)/\w'.cell? ⟨E,5,none⟩=some (.bool aa)/\w'.cell? ⟨E,6,none⟩=some (.int .i32 ab)/\w'.cell? ⟨D,0,none⟩=some (.string I)/\w'.cell? ⟨D,1,none⟩=some (.int .i64 J)) (ds:=[]) #[false,false,false,false,false,false,false,false,false,false,false,false] (by kernel_rfl) rfl rfl ⟨(zab A.out 0).trans rfl,(zab A.out 1).trans rfl,(zab A.out 2).trans rfl,(zab A.out 3).trans rfl,(zab A.out 4).trans rfl,(zab A.out 5).trans rfl,(zab A.out 6).trans rfl,(zab B.out 0).trans rfl,(zab B.out 1).trans rfl⟩ (λhHeld=>?_);refine zbj zaH.tab8 zaH.bits8 (λO HW_=>?_);generalize bI.drew=bX at A B HB hHeld ⊢;refine pz (i:=1) (N:=30) O ?_;refine pz (i:=5) (N:=34) O ?_;refine pz (i:=8) (N:=37) O ?_;refine tz (i:=0) (N:=29) rfl O HW_ hHeld (by(rintro w' ⟨s0,s1,s2,s3,s4,s5,s6,s7,s8⟩;go_simp;with_reducible rfl)) ?_;refine tz (i:=2) (N:=31) rfl O HW_ hHeld (by(rintro w' ⟨s0,s1,s2,s3,s4,s5,s6,s7,s8⟩;go_simp;with_reducible rfl)) ?_;refine pz (i:=3) (N:=32) O ?_;refine tz (i:=6) (N:=35) rfl O HW_ hHeld (by(rintro w' ⟨s0,s1,s2,s3,s4,s5,s6,s7,s8⟩;go_simp;with_reducible rfl)) ?_;refine oz (i:=4) (N:=some 33) O λK hK=>?_;refine gG Tryz.func44 (strings_Repeat.calls (⟨#[48]⟩:ByteArray) (wrap64 (-J)) aJ _ bw.out) ?_;intro bY hb;replace A:=kN (g:=E) hb bk;replace B:=kN (g:=D) hb bk;replace HB:=bN bz hb;clear hb;refine hK.out _ _ ⟨bc A 0,bc A 1,bc A 2,bc A 3,bc A 4,bc A 5,bc A 6,bc B 0,bc B 1⟩ (λhHeld=>?_);clear hK K;refine nz ?_;refine pz (i:=7) (N:=36) O ?_;refine oz (i:=9) (N:=some 38) O λK hK=>?_;refine gG Tryz.func68 (zbC.calls (aJ++I) af aK _ bD.out) ?_;intro bZ hb;replace A:=kN (g:=E) hb bk;replace B:=kN (g:=D) hb bk;replace HB:=bN bz hb;clear hb;refine hK.out _ _ ⟨bc A 0,bc A 1,bc A 2,bc A 3,bc A 4,bc A 5,bc A 6,bc B 0,bc B 1⟩ (λhHeld=>?_);clear hK K;refine nz ?_;refine oz (i:=10) (N:=some 39) O λK hK=>?_;refine gG Tryz.func71 (za5.calls U X Y Z M aa ab (⟨#[48]⟩:ByteArray) aK aW _ bE.out) ?_;intro b0 hb;replace A:=kN (g:=E) hb bk;replace B:=kN (g:=D) hb bk;replace HB:=bN bz hb;clear hb;refine hK.out _ _ ⟨bc A 0,bc A 1,bc A 2,bc A 3,bc A 4,bc A 5,bc A 6,bc B 0,bc B 1⟩ (λhHeld=>?_);clear hK K;refine nz ?_;refine pz (i:=11) (N:=2) O ?_;refine dz O ?_;(try go_wp2);go_ret;exact⟨ez,bz⟩
mutual
def zaw.j0:Nat->Int->Int->Int->Int->Int->Int->Int->Bool->Int->ByteArray->Int->Option (ByteArray)
 |0,_,_,_,_,_,_,_,_,_,_,_=>none
 |k+1,x4,x5,B,D,E,I,J,K,M,A,O=>if A.toList=([]:List UInt8) then(zaw.j1 k x4 x5 (⟨#[48]⟩:ByteArray) B D E I J K M A O) else(zaw.j1 k x4 x5 A B D E I J K M A O)
def zaw.j1:Nat->Int->Int->ByteArray->Int->Int->Int->Int->Int->Bool->Int->ByteArray->Int->Option (ByteArray)
 |0,_,_,_,_,_,_,_,_,_,_,_,_=>none
 |k+1,x4,x5,x6,B,D,E,I,J,A,K,M,O=>if A=true then((zbC.f x6 x5).bind λU=>(zaw.j2 k x4 U B D E I J A K M O)) else(zaw.j2 k x4 x6 B D E I J A K M O)
def zaw.j2:Nat->Int->ByteArray->Int->Int->Int->Int->Int->Bool->Int->ByteArray->Int->Option (ByteArray)
 |0,_,_,_,_,_,_,_,_,_,_,_=>none
 |k+1,x4,x6,D,E,I,J,K,M,O,A,B=>(zcc.f A B).bind λU=>(if U<(-4) then(zaw.j3 k x6 U true D E I J K M O A B) else(zaw.j3 k x6 U (decide (U>=x4)) D E I J K M O A B))
def zaw.j3:Nat->ByteArray->Int->Bool->Int->Int->Int->Int->Int->Bool->Int->ByteArray->Int->Option (ByteArray)
 |0,_,_,_,_,_,_,_,_,_,_,_,_=>none
 |k+1,x6,x7,Z,A,B,D,E,I,J,K,M,O=>if Z=true then((zaG.f k A B D E I J K x6 x7).bind λU=>(some U)) else((zcc.f M O).bind λX=>((zaW.f A B D E I J K x6 (wrap64 (X+1))).bind λY=>(some Y)))
end
def zaw.f(k:Nat)(B:Int)(D:Int)(E:Int)(I:Int)(A:Int)(J:Bool)(K:Int):Option (ByteArray):=if A<0 then((zaV.f k B D).bind λM=>(zaw.j0 k 21 6 B D E I A J K M.1 M.2.1)) else((zbI.f k B D E I A J K).bind λO=>((zbY.f k O.1 O.2 (mx A 1)).bind λU=>(zaw.j0 k (mx A 1) (mx A 1) B D E I A J K U.1 U.2.1)))
theorem zaw.calls(k:Nat)(J:Int)(M:Int)(U:Int)(X:Int)(E:Int)(Y:Bool)(Z:Int)(r:ByteArray)(w:World)(h:zaw.f k J M U X E Y Z=some r):
  Calls Tryz.prog 41 #[.agg #[.int .u64 J,.int .i64 M,.int .u64 U,.int .i64 X,.int .i64 E,.bool Y,.int .i32 Z]] w λe w'=>e= .returned (.string r)/\Below w.heap.size w w':=by
 have cZ:=Tryz.underlying52;have c5:=Tryz.underlying74;have HB:=zaa.mk (Below.refl w.heap.size w);have H:(if E<0 then((zaV.f k J M).bind λa3=>(zaw.j0 k 21 6 J M U X E Y Z a3.1 a3.2.1)) else((zbI.f k J M U X E Y Z).bind λa4=>((zbY.f k a4.1 a4.2 (mx E 1)).bind λa5=>(zaw.j0 k (mx E 1) (mx E 1) J M U X E Y Z a5.1 a5.2.1))))=some r:=h;clear h;have br:=zaa.mk H;clear H;go_enter Tryz.func41,Tryz.ntmps41;(go_upto_if 10 with(first|((with_reducible refine zae (N:=1) rfl ?_);refine zaf rfl (N:=1) rfl (cs:=#[.int .u64 J,.int .i64 M,.int .u64 U,.int .i64 X,.int .i64 E,.bool Y,.int .i32 Z]) (t:=52) gz ?_;intro O hg w3 hbox hb;have cC:=gN bz hg;have B:=zaa.mk hbox;replace HB:=bN bz hb;clear hb hbox hg)|((with_reducible refine zae (N:=3) rfl ?_);refine zaf rfl (N:=3) rfl (cs:=#[.string (⟨#[]⟩:ByteArray),.int .i64 0]) (t:=74) gz ?_;intro ac hg w4 hbox hb;have cD:=gN bz hg;have aa:=lN (g:=O) (cs:=#[.int .u64 J,.int .i64 M,.int .u64 U,.int .i64 X,.int .i64 E,.bool Y,.int .i32 Z]) hg bk;have ab:=rN (g:=O) (cs:=#[.int .u64 J,.int .i64 M,.int .u64 U,.int .i64 X,.int .i64 E,.bool Y,.int .i32 Z]) hg bk;replace B:=kN (g:=O) (cs:=#[.int .u64 J,.int .i64 M,.int .u64 U,.int .i64 X,.int .i64 E,.bool Y,.int .i32 Z]) hb bk;have I:=zaa.mk hbox;replace HB:=bN bz hb;clear hb hbox hg;have c6:=aa.out;have c8:=ab.out;obtain⟨af,ag,ah,ai,aj,ak,al,am,an,ao,ap,ar,au,av⟩:=cz7 B)));(try simp only[Act.put,sA]);go_cut [4,5] (λv4 v5 wc=> ∃(kq:Nat) (aD:Int) (aF:Int) (A:ByteArray) (D:Int),v4= .int .i64 aD/\v5= .int .i64 aF/\zaa (zaw.j0 kq aD aF J M U X E Y Z A D=some r)/\zaa (kq<=k)/\zaa (wc.heap[O]? =some (.cells #[.int .u64 J,.int .i64 M,.int .u64 U,.int .i64 X,.int .i64 E,.bool Y,.int .i32 Z] 52 (0,0)))/\zaa (wc.heap[ac]? =some (.cells #[.string A,.int .i64 D] 74 (0,0)))/\zaa (Below w.heap.size w wc));case first=>
  have H:=br.out;clear br;by_cases c7:E<0
  (·replace H:=hE H c7;have a6:=decide_eq_true c7;clear c7;(try rw[a6]);replace H:=bs H;obtain⟨⟨bh,bi,bu⟩,A8,H⟩:=H;dsimp only at H;have H':=zaa.mk H;clear H;have c9:=aa.out;have da:=ab.out;obtain⟨bv,bw,bA,bB,bC,bD,bE,bG,bH,bI,bJ,bK,bL,bM⟩:=cz7 B;go_wp2_with (first|((with_reducible refine zac (f:=73) rfl ?_);refine gB Tryz.func73 (zaV.calls k J M bh bi bu _ A8.out) ?_;intro dc hb;replace B:=kN (g:=O) (cs:=#[.int .u64 J,.int .i64 M,.int .u64 U,.int .i64 X,.int .i64 E,.bool Y,.int .i32 Z]) hb bk;replace I:=kN (g:=ac) (cs:=#[.string (⟨#[]⟩:ByteArray),.int .i64 0]) hb bk;replace HB:=bN bz hb;clear hb;obtain⟨bO,bP,bQ,bR⟩:=cz2 I));go_meet;case rel=>exact⟨_,(21),(6),(bh),(bi),rz,rz,H',⟨by first|omega|exact Nat.le_refl _⟩,⟨bk⟩,⟨bk⟩,⟨bz⟩⟩);replace H:=hN H c7;have a6:=decide_eq_false c7;clear c7;(try rw[a6]);obtain⟨aE,ad⟩:=ex (mx E 1);(first|rw[ad] at H|simp only[ad] at H);(try(have cz:1<=aE:=by(rw[<-ad];unfold mx;(repeat' split)<;>omega)));(try(have cA:0<=aE:=by omega));have cB:(if E<1 then 1 else E)=aE:=ad;replace H:=bs H;obtain⟨⟨bj,bl⟩,cF,H⟩:=H;dsimp only at H;replace H:=bs H;obtain⟨⟨bm,bn,bS⟩,cG,H⟩:=H;dsimp only at H;have H':=zaa.mk H;clear H;have cH:=aa.out;have cI:=ab.out;obtain⟨bU,bV,bW,bX,bY,bZ,b0,b1,b2,b3,b4,b5,b6,b7⟩:=cz7 B;go_wp2_with (first|((with_reducible refine zac (f:=66) rfl ?_);refine gB Tryz.func66 (zbI.calls k J M U X E Y Z bj bl _ cF.out) ?_;intro dd hb;replace B:=kN (g:=O) (cs:=#[.int .u64 J,.int .i64 M,.int .u64 U,.int .i64 X,.int .i64 E,.bool Y,.int .i32 Z]) hb bk;replace I:=kN (g:=ac) (cs:=#[.string (⟨#[]⟩:ByteArray),.int .i64 0]) hb bk;replace HB:=bN bz hb;clear hb)|((with_reducible refine zac (f:=65) rfl ?_);refine gB Tryz.func65 (zbY.calls k bj bl aE bm bn bS _ cG.out) ?_ (hargs:=by(try simp only[List.map_toArray,List.map_cons,List.map_nil]);first|done|(simp only[ad];rfl)|rfl|(simp only[List.length_drop,List.length_take];rfl));intro de hb;replace B:=kN (g:=O) (cs:=#[.int .u64 J,.int .i64 M,.int .u64 U,.int .i64 X,.int .i64 E,.bool Y,.int .i32 Z]) hb bk;replace I:=kN (g:=ac) (cs:=#[.string (⟨#[]⟩:ByteArray),.int .i64 0]) hb bk;replace HB:=bN bz hb;clear hb;obtain⟨b8,ca,cb,cc⟩:=cz2 I));go_meet;case rel=>exact⟨_,(aE),(aE),(bm),(bn),(by first|rfl|(simp;done)|(simp only[<-ad]<;>(first|rfl|simp))|(simp[*];done)),(by first|rfl|(simp;done)|(simp only[<-ad]<;>(first|rfl|simp))|(simp[*];done)),H',⟨by first|omega|exact Nat.le_refl _⟩,⟨bk⟩,⟨bk⟩,⟨bz⟩⟩
 case rest=>
  clear br;(try clear af ag ah ai aj ak al am an ao ap ar au av);obtain⟨kq,aD,aF,A,D,rfl,rfl,HA,a1,B,I,HB⟩:=hcut;cases kq with
  |zero=>exact absurd HA.out (by simp[zaw.j0])
  |succ cJ=>
   have H:=HA.out;clear HA;simp only[zaw.j0] at H;have a7:=zaa.mk H;clear H;have cK:=ab.out;have cL:=aa.out;obtain⟨ax,ay,az,aA⟩:=cz2 I;(go_upto_if 33 with(fail));go_cut [6] (λv6 wc=> ∃(kq:Nat) (aB:ByteArray),v6= .string aB/\zaa (zaw.j1 kq aD aF aB J M U X E Y Z A D=some r)/\zaa (kq<=cJ)/\zaa (wc.heap[O]? =some (.cells #[.int .u64 J,.int .i64 M,.int .u64 U,.int .i64 X,.int .i64 E,.bool Y,.int .i32 Z] 52 (0,0)))/\zaa (wc.heap[ac]? =some (.cells #[.string A,.int .i64 D] 74 (0,0)))/\zaa (Below w.heap.size w wc));case first=>
    have H:=a7.out;clear a7;by_cases aV:A.toList=([]:List UInt8)
    (·replace H:=hE H aV;have aC:(A.toList==([]:List UInt8))=true:=beq_iff_eq.mpr aV;have aW:(A.toList !=([]:List UInt8))=false:=bne_eq_false_iff_eq.mpr aV;(have aX:A.toList.isEmpty=true:=by simpa using aC);clear aV;(try first|rw[aC]|rw[aW]|rw[aX]);have H':=zaa.mk H;clear H;go_wp2;go_meet;case rel=>exact⟨_,((⟨#[48]⟩:ByteArray)),rz,H',⟨by have:=a1.out;first|omega|exact Nat.le_refl _⟩,⟨bk⟩,⟨bk⟩,⟨bz⟩⟩);replace H:=hN H aV;have aC:(A.toList==([]:List UInt8))=false:=beq_eq_false_iff_ne.mpr aV;have aW:(A.toList !=([]:List UInt8))=true:=bne_iff_ne.mpr aV;(have aX:A.toList.isEmpty=false:=by simpa using aC);(try first|rw[aC]|rw[aW]|rw[aX]);have H':=zaa.mk H;clear H;go_wp2;go_meet;case rel=>exact⟨_,(A),rz,H',⟨by have:=a1.out;first|omega|exact Nat.le_refl _⟩,⟨bk⟩,⟨bk⟩,⟨bz⟩⟩
   case rest=>
    clear a7;(try clear ax ay az aA);(try clear af ag ah ai aj ak al am an ao ap ar au av);obtain⟨kq,aB,rfl,HA,aZ,B,I,HB⟩:=hcut;cases kq with
    |zero=>exact absurd HA.out (by simp[zaw.j1])
    |succ cd=>
     have H:=HA.out;clear HA;simp only[zaw.j1] at H;have a8:=zaa.mk H;clear H;have cM:=aa.out;have cN:=ab.out;obtain⟨aG,aH,aI,aJ,aK,aL,aM,aN,aO,aP,aQ,aR,aS,aT⟩:=cz7 B;(go_upto_if 35 with(fail));go_cut [6] (λv6 wc=> ∃(kq:Nat) (ae:ByteArray),v6= .string ae/\zaa (zaw.j2 kq aD ae J M U X E Y Z A D=some r)/\zaa (kq<=cd)/\zaa (wc.heap[O]? =some (.cells #[.int .u64 J,.int .i64 M,.int .u64 U,.int .i64 X,.int .i64 E,.bool Y,.int .i32 Z] 52 (0,0)))/\zaa (wc.heap[ac]? =some (.cells #[.string A,.int .i64 D] 74 (0,0)))/\zaa (Below w.heap.size w wc));case first=>
      have H:=a8.out;clear a8;by_cases bf:Y=true
      (·subst bf;replace H:=hT H;replace H:=bs H;obtain⟨bo,cO,H⟩:=H;have H':=zaa.mk H;clear H;go_wp2_with (first|((with_reducible refine zac (f:=68) rfl ?_);refine gB Tryz.func68 (zbC.calls aB aF bo _ cO.out) ?_;intro df hb;replace B:=kN (g:=O) (cs:=#[.int .u64 J,.int .i64 M,.int .u64 U,.int .i64 X,.int .i64 E,.bool true,.int .i32 Z]) hb bk;replace I:=kN (g:=ac) (cs:=#[.string A,.int .i64 D]) hb bk;replace HB:=bN bz hb;clear hb));go_meet;case rel=>exact⟨_,(bo),rz,H',⟨by have:=a1.out;have:=aZ.out;first|omega|exact Nat.le_refl _⟩,⟨bk⟩,⟨bk⟩,⟨bz⟩⟩);replace bf:=Bool.eq_false_iff.mpr bf;subst bf;replace H:=hF H;have H':=zaa.mk H;clear H;go_wp2;go_meet;case rel=>exact⟨_,(aB),rz,H',⟨by have:=a1.out;have:=aZ.out;first|omega|exact Nat.le_refl _⟩,⟨bk⟩,⟨bk⟩,⟨bz⟩⟩
     case rest=>
      clear a8;(try clear ax ay az aA);(try clear aG aH aI aJ aK aL aM aN aO aP aQ aR aS aT);(try clear af ag ah ai aj ak al am an ao ap ar au av);obtain⟨kq,ae,rfl,HA,bp,B,I,HB⟩:=hcut;cases kq with
      |zero=>exact absurd HA.out (by simp[zaw.j2])
      |succ ce=>
       have H:=HA.out;clear HA;simp only[zaw.j2] at H;replace H:=bs H;obtain⟨aU,cP,H⟩:=H;have a9:=zaa.mk H;clear H;have cQ:=ab.out;have cR:=aa.out;obtain⟨ba,bb,bd,be⟩:=cz2 I;(go_upto_region 14 with(first|((with_reducible refine zac (f:=69) rfl ?_);refine gB Tryz.func69 (zcc.calls A D aU _ cP.out) ?_;intro dh hb;replace B:=kN (g:=O) (cs:=#[.int .u64 J,.int .i64 M,.int .u64 U,.int .i64 X,.int .i64 E,.bool Y,.int .i32 Z]) hb bk;replace I:=kN (g:=ac) (cs:=#[.string A,.int .i64 D]) hb bk;replace HB:=bN bz hb;clear hb)));(try simp only[Act.put,sA]);go_cut [47] (λcS wc=> ∃(kq:Nat) (aw:Bool),cS= .bool aw/\zaa (zaw.j3 kq ae aU aw J M U X E Y Z A D=some r)/\zaa (kq<=ce)/\zaa (wc.heap[O]? =some (.cells #[.int .u64 J,.int .i64 M,.int .u64 U,.int .i64 X,.int .i64 E,.bool Y,.int .i32 Z] 52 (0,0)))/\zaa (wc.heap[ac]? =some (.cells #[.string A,.int .i64 D] 74 (0,0)))/\zaa (Below w.heap.size w wc));case first=>
        have H:=a9.out;clear a9;by_cases a2:aU<(-4)
        (·replace H:=hE H a2;have aY:=decide_eq_true a2;clear a2;(try rw[aY]);have H':=zaa.mk H;clear H;go_wp2;go_meet;case rel=>exact⟨_,(true),rz,H',⟨by have:=a1.out;have:=aZ.out;have:=bp.out;first|omega|exact Nat.le_refl _⟩,⟨bk⟩,⟨bk⟩,⟨bz⟩⟩);replace H:=hN H a2;have aY:=decide_eq_false a2;clear a2;(try rw[aY]);have H':=zaa.mk H;clear H;go_wp2;go_meet;case rel=>exact⟨_,(decide (aU>=aD)),rz,H',⟨by have:=a1.out;have:=aZ.out;have:=bp.out;first|omega|exact Nat.le_refl _⟩,⟨bk⟩,⟨bk⟩,⟨bz⟩⟩
       case rest=>
        clear a9;(try clear ax ay az aA);(try clear aG aH aI aJ aK aL aM aN aO aP aQ aR aS aT);(try clear ba bb bd be);(try clear af ag ah ai aj ak al am an ao ap ar au av);obtain⟨kq,aw,rfl,HA,db,B,I,HB⟩:=hcut;cases kq with
        |zero=>exact absurd HA.out (by simp[zaw.j3])
        |succ cf=>
         have H:=HA.out;clear HA;simp only[zaw.j3] at H;by_cases bg:aw=true
         (·subst bg;replace H:=hT H;replace H:=bs H;obtain⟨cg,cT,H⟩:=H;obtain rfl:=Option.some.inj H;have cV:=aa.out;have cW:=ab.out;obtain⟨ci,cj,ck,cm,cn,co,cp,cq,cr,ct,cu,cv,cw,cx⟩:=cz7 B;go_wp2_with (first|((with_reducible refine zac (f:=67) rfl ?_);refine gB Tryz.func67 (zaG.calls cf J M U X E Y Z ae aU cg _ cT.out) ?_;intro di hb;replace B:=kN (g:=O) (cs:=#[.int .u64 J,.int .i64 M,.int .u64 U,.int .i64 X,.int .i64 E,.bool Y,.int .i32 Z]) hb bk;replace I:=kN (g:=ac) (cs:=#[.string A,.int .i64 D]) hb bk;replace HB:=bN bz hb;clear hb));go_ret;exact⟨ez,bz⟩);replace bg:=Bool.eq_false_iff.mpr bg;subst bg;replace H:=hF H;replace H:=bs H;obtain⟨bq,cX,H⟩:=H;replace H:=bs H;obtain⟨cy,cY,H⟩:=H;obtain rfl:=Option.some.inj H;(try go_wp2);replace B:=zaa.mk (zat B.out);replace I:=zaa.mk (zat I.out);replace HB:=zaa.mk (zaT HB.out);refine zbv (n:=7) (S:=λw'=>w'.cell? ⟨O,0,none⟩=some (.int .u64 J)/\w'.cell? ⟨O,1,none⟩=some (.int .i64 M)/\w'.cell? ⟨O,2,none⟩=some (.int .u64 U)/\w'.cell? ⟨O,3,none⟩=some (.int .i64 X)/\w'.cell? ⟨O,4,none⟩=some (.int .i64 E)/\w'.cell? ⟨O,5,none⟩=some (.bool Y)/\w'.cell? ⟨O,6,none⟩=some (.int .i32 Z)/\w'.cell? ⟨ac,0,none⟩=some (.string A)/\w'.cell? ⟨ac,1,none⟩=some (.int .i64 D)) (ds:=[]) #[false,false,false,false,false,false,false] (by kernel_rfl) rfl rfl ⟨(zab B.out 0).trans rfl,(zab B.out 1).trans rfl,(zab B.out 2).trans rfl,(zab B.out 3).trans rfl,(zab B.out 4).trans rfl,(zab B.out 5).trans rfl,(zab B.out 6).trans rfl,(zab I.out 0).trans rfl,(zab I.out 1).trans rfl⟩ (λhHeld=>?_);generalize wc.drew=dj at B I HB hHeld ⊢;refine zb9 (i:=1) (N:=some 53) (v:=?_) (a':=?_) #[false,true,false,false,false,false,false] rfl rfl (by kernel_rfl) (λ_ _ _ h=>h) (Or.inl ⟨by rfl,?_⟩) ?_ ?_;rotate_left
         (·intro w';go_simp;with_reducible rfl);rotate_left
         (·simp only[Act.put,sA,zbb,zbo];rfl);refine zc1 (i:=0) (N:=some 52) (v:=?_) (a':=?_) #[true,true,false,false,false,false,false] rfl rfl (by kernel_rfl) (λ_ _ _ h=>h) (Or.inl ⟨by rfl,?_⟩) hHeld ?_ ?_;rotate_left
         (·rintro w' ⟨s0,s1,s2,s3,s4,s5,s6,s7,s8⟩;go_simp;with_reducible rfl);rotate_left
         (·simp only[Act.put,sA,zbb,zbo];rfl);refine zc1 (i:=2) (N:=some 54) (v:=?_) (a':=?_) #[true,true,true,false,false,false,false] rfl rfl (by kernel_rfl) (λ_ _ _ h=>h) (Or.inl ⟨by rfl,?_⟩) hHeld ?_ ?_;rotate_left
         (·rintro w' ⟨s0,s1,s2,s3,s4,s5,s6,s7,s8⟩;go_simp;with_reducible rfl);rotate_left
         (·simp only[Act.put,sA,zbb,zbo];rfl);refine one_ (i:=3) (N:=some 55) #[true,true,true,true,false,false,false] rfl rfl (by kernel_rfl) (by decide) (λK hK=>?_);refine gG Tryz.func69 (zcc.calls A D bq _ cX.out) ?_;intro dk hb;replace B:=kN (g:=O) (cs:=#[.int .u64 J,.int .i64 M,.int .u64 U,.int .i64 X,.int .i64 E,.bool Y,.int .i32 Z]) hb bk;replace I:=kN (g:=ac) (cs:=#[.string A,.int .i64 D]) hb bk;replace HB:=bN bz hb;clear hb;refine hK.out _ _ ⟨bc B 0,bc B 1,bc B 2,bc B 3,bc B 4,bc B 5,bc B 6,bc I 0,bc I 1⟩ (λhHeld=>?_);clear hK K;refine nz ?_;refine zb9 (i:=4) (N:=some 56) (v:=?_) (a':=?_) #[true,true,true,true,true,false,false] rfl rfl (by kernel_rfl) (λ_ _ _ h=>h) (Or.inl ⟨by rfl,?_⟩) ?_ ?_;rotate_left
         (·intro w';go_simp;with_reducible rfl);rotate_left
         (·simp only[Act.put,sA,zbb,zbo];rfl);refine one_ (i:=5) (N:=some 57) #[true,true,true,true,true,true,false] rfl rfl (by kernel_rfl) (by decide) (λK hK=>?_);refine gG Tryz.func72 (zaW.calls J M U X E Y Z ae (wrap64 (bq+1)) cy _ cY.out) ?_;intro dl hb;replace B:=kN (g:=O) (cs:=#[.int .u64 J,.int .i64 M,.int .u64 U,.int .i64 X,.int .i64 E,.bool Y,.int .i32 Z]) hb bk;replace I:=kN (g:=ac) (cs:=#[.string A,.int .i64 D]) hb bk;replace HB:=bN bz hb;clear hb;refine hK.out _ _ ⟨bc B 0,bc B 1,bc B 2,bc B 3,bc B 4,bc B 5,bc B 6,bc I 0,bc I 1⟩ (λhHeld=>?_);clear hK K;refine nz ?_;refine zb9 (i:=6) (N:=some 2) (v:=?_) (a':=?_) #[true,true,true,true,true,true,true] rfl rfl (by kernel_rfl) (λ_ _ _ h=>h) (Or.inl ⟨by rfl,?_⟩) ?_ ?_;rotate_left
         (·intro w';go_simp;with_reducible rfl);rotate_left
         (·simp only[Act.put,sA,zbb,zbo];rfl);refine zdO (by kernel_rfl) ?_;(try go_wp2);go_ret;exact⟨ez,bz⟩
end
end Go.Proofs.YtilidabdbhaljaaGreatDoor.Fn
end
section
namespace Go.Proofs.YtilidabdbhaljaaGreatDoor.Pure
open Go.RowKit Go.Proofs.YtilidabdbhaljaaGreatDoorW.PrintWords Go.Proofs.YtilidabdbhaljaaGreatDoorW.PrintLast Go.Proofs.YtilidabdbhaljaaGreatDoorW.PrintMore Go.Proofs.YtilidabdbhaljaaGreatDoor.Fn
structure Near (v : List UInt8 × Int) : Prop where
  form : InForm v.1 v.2
  len : v.1.length <= 1300
  lo : -2600 <= v.2
  hi : v.2 <= 1400
theorem Near.five{v:List UInt8×Int}(h:Near v):v.1.length<=2000/\ -5000<=v.2/\v.2<=5000:=by
 have:=h.len;have:=h.lo;have:=h.hi;omega
theorem zdg{m:Nat}(hm:m<18446744073709551616){e:Int}(h: -1200<=e/\e<=1200):Near (exD m e):=by
 have h1:=zdK hm h;exact⟨zd6 m e,h1.1,by omega,by omega⟩
theorem zfb(b s:Int){m:Nat}(hm:m<18446744073709551616){e:Int}(h: -1200<=e/\e<=1200)(prec v:Int)(dot:Bool):
 Ev (λk=>zbI.f k b s (m:Int) e prec dot v) (S (exD m e).1,(exD m e).2):=by
 have hx:=zd4 m e hm;rw[zcW m h] at hx;unfold zbI.f;exact Ev.bind hx (Ev.now _)
theorem zf7{v:List UInt8×Int}(h:Near v)(n:Int):Ev (λk=>zbY.f k (S v.1) v.2 n) (S (roundN v.1 v.2 n).1,(roundN v.1 v.2 n).2,0):=by
 have hr:=zgJ (S v.1) v.2 n;have h5:=h.five;unfold roundS at hr;rw[zcN h.form h5.1 h5.2,if_pos rfl] at hr;simp only[L_S] at hr;exact hr
theorem zh3{v:List UInt8×Int}(h:Near v){n:Int}(hn: -20000<=n/\n<=20000):Ev (λk=>zcx.f k (S v.1) v.2 n) (S (roundN v.1 v.2 (v.2+n)).1,(roundN v.1 v.2 (v.2+n)).2,0):=by
 have hr:=ziV (S v.1) v.2 n;have h5:=h.five;unfold roundS at hr;rw[zcN h.form h5.1 h5.2,if_pos rfl,show max (-20000) (min n 20000)=n by omega] at hr;simp only[L_S] at hr;exact hr
theorem zds{v:List UInt8×Int}(h:InForm v.1 v.2)(n:Int):InForm (roundN v.1 v.2 n).1 (roundN v.1 v.2 n).2:=by
 unfold roundN;split
 ·exact⟨AllD.nil,λc t e=>(by cases e),rfl,λ_=>rfl⟩
 ·split
  ·exact h
  ·split<;>exact zbx _ _
theorem zcm{v:List UInt8×Int}(h:Near v)(n:Int):(roundN v.1 v.2 n).1.length<=1300/\ -4000<=(roundN v.1 v.2 n).2/\(roundN v.1 v.2 n).2<=1500:=by
 have h1:=h.len;have h2:=h.lo;have h3:=h.hi;unfold roundN;by_cases c1:n<0
 ·rw[if_pos c1];exact⟨Nat.zero_le _,by decide,by decide⟩
 ·rw[if_neg c1];by_cases c2:(v.1.length:Int)<=n
  ·rw[if_pos c2];exact⟨h1,by omega,by omega⟩
  ·rw[if_neg c2];(have hn:n.toNat<v.1.length:=by omega);have hv:=zc2 (h.form.1.take n.toNat);rw[List.length_take,Nat.min_eq_left (Nat.le_of_lt hn)] at hv;have hp:10^n.toNat<=10^(n.toNat+1):=Nat.pow_le_pow_right (by decide) (Nat.le_succ _);have b1:=zcl (n:=val (v.1.take n.toNat)) (m:=n.toNat+1) (by omega) (v.2-n);have A:10^n.toNat+1<=10^(n.toNat+1):=by
    rw[Nat.pow_succ];have:1<=10^n.toNat:=Nat.pow_pos (by decide);omega
   have b2:=zcl (n:=val (v.1.take n.toNat)+1) (m:=n.toNat+1) (by omega) (v.2-n);split
   ·exact⟨by omega,by omega,by omega⟩
   ·exact⟨by omega,by omega,by omega⟩
theorem zgo{l:List UInt8}{n:Int}(h:1<=n):fillL l n≠[]:=by
 intro e;have:=zb7 l n;rw[e] at this;simp at this;omega
theorem zcQ{d:List UInt8×Int}(h: -4000<=d.2/\d.2<=1500): -4001<=firstL d/\firstL d<=1500:=by
 unfold firstL;split<;>omega
def six(prec:Int):Int:=if prec<0 then 6 else prec
theorem zka(b s:Int){m:Nat}(hm:m<18446744073709551616){e:Int}(h: -1200<=e/\e<=1200){prec:Int}(hp: -1<=prec/\prec<=1000)(v:Int)(dot:Bool):
 Ev (λk=>zaQ.f k b s (m:Int) e prec dot v) (S (scaledL dot (bigV v) (exD m e) (six prec))):=by
 have hx:=zdg hm h;have key: ∀p:Int,0<=p->p<=1000->Ev (λk=>zaQ.j0 k p b s (m:Int) e prec dot v) (S (scaledL dot (bigV v) (exD m e) p)):=by
  intro p p0 p1;have hb:=zcm hx (p+1);have hfl:=zb7 (roundN (exD m e).1 (exD m e).2 (p+1)).1 (p+1);have hfb:=zcQ (d:=roundN (exD m e).1 (exD m e).2 (p+1)) hb.2;refine Ev.step (λk=>by simp only[zaQ.j0];rfl) ?_;refine Ev.bind (zfb b s hm h prec v dot) ?_;rw[w64 (x:=p+1) (by omega) (by omega)];refine Ev.bind (zf7 hx (p+1)) ?_;unfold scaledL;generalize roundN (exD m e).1 (exD m e).2 (p+1)=d at*
  obtain⟨l,q⟩:=d;dsimp only at hb hfl hfb ⊢;rw[zdm (by omega) (by omega)];simp only[Option.bind_some];rw[zfN _ (by omega)];simp only[Option.bind_some];exact Ev.bind (zjW b s (m:Int) e prec v dot (zgo (by omega)) (by omega) (by omega)) (Ev.now _)
 unfold zaQ.f six;by_cases c:prec<0
 ·rw[if_pos c];exact eP c (key 6 (by decide) (by decide))
 ·rw[if_neg c];exact eN c (key prec (by omega) hp.2)
theorem zll(b s:Int){m:Nat}(hm:m<18446744073709551616){e:Int}(h: -1200<=e/\e<=1200){prec:Int}(hp: -1<=prec/\prec<=1000)(v:Int)(dot:Bool):
 Ev (λk=>zaH.f k b s (m:Int) e prec dot v) (S (fixedL dot (exD m e) (six prec))):=by
 have hx:=zdg hm h;have key: ∀p:Int,0<=p->p<=1000->Ev (λk=>zaH.j0 k p b s (m:Int) e prec dot v) (S (fixedL dot (exD m e) p)):=by
  intro p p0 p1;have hb:=zcm hx ((exD m e).2+p);refine Ev.step (λk=>by simp only[zaH.j0];rfl) ?_;refine Ev.bind (zfb b s hm h prec v dot) ?_;refine Ev.bind (zh3 hx (by omega)) ?_;unfold fixedL;generalize roundN (exD m e).1 (exD m e).2 ((exD m e).2+p)=d at*
  obtain⟨l,q⟩:=d;dsimp only at hb ⊢;by_cases c1:l=[]
  ·refine eP ((zbD l).2 c1) ?_;rw[if_pos c1,zdx (by omega) (by omega)];simp only[Option.bind_some];rw[show(⟨#[48]⟩:ByteArray)=S [48] from rfl,zdd _ _ _ _ _ _ _ (by rw[zbE];simp;omega)];exact Ev.now _
  ·refine eN (λe=>c1 ((zbD l).1 e)) ?_;rw[if_neg c1];by_cases c2:q<=0
   ·refine eP c2 ?_;rw[if_pos c2,w64 (x:= -q) (by omega) (by omega),zdx (by omega) (by omega)];simp only[Option.bind_some];refine eP (by rw[zas,zas,zbE];omega) ?_;have hfl:=zb7 (zsL (-q).toNat++l) p;rw[List.length_append,zbE] at hfl;rw[zbr,zdm (by rw[List.length_append,zbE];omega) (by omega)];simp only[Option.bind_some];rw[show(⟨#[48]⟩:ByteArray)=S [48] from rfl,zdd _ _ _ _ _ _ _ (by simp;omega)];exact Ev.now _
   ·refine eN c2 ?_;have hfl:=zb7 l (q+p);rw[if_neg c2,w64 (x:=q+p) (by omega) (by omega),zdm (by omega) (by omega)];simp only[Option.bind_some];rw[zgM _ _ _ _ _ _ _ (by omega) (by omega)];exact Ev.now _
 unfold zaH.f six;by_cases c:prec<0
 ·rw[if_pos c];exact eP c (key 6 (by decide) (by decide))
 ·rw[if_neg c];exact eN c (key prec (by omega) hp.2)
theorem zhI(b s m e prec v:Int)(dot:Bool){d:List UInt8×Int}(hd:d.1.length<=2000/\ -4000<=d.2/\d.2<=1500){keep top:Int}(hk:1<=keep/\keep<=1000):
 Ev (λk=>zaw.j0 k top keep b s m e prec dot v (S d.1) d.2) (S (genL dot (bigV v) d keep top)):=by
 obtain⟨l,q⟩:=d;dsimp only at hd ⊢;have hfb:=zcQ (d:=(l,q)) hd.2;have h3: ∀(x:List UInt8),x≠[]->x.length<=5000->Ev (λk=>zaw.j2 k top (S x) b s m e prec dot v (S l) q) (S (if firstL (l,q)< -4\/firstL (l,q)>=top then sciL dot (bigV v) x (firstL (l,q)) else aroundL dot x (firstL (l,q)+1))):=by
  intro x hx hxl;refine Ev.step (λk=>by simp only[zaw.j2];rfl) ?_;rw[zfN l (by omega)];simp only[Option.bind_some];obtain⟨z,hzz⟩: ∃z,firstL (l,q)=z:=⟨_,rfl⟩;rw[hzz] at hfb ⊢;have hs:Ev (λk=>zaw.j3 k (S x) z true b s m e prec dot v (S l) q) (S (sciL dot (bigV v) x z)):=by
   refine Ev.step (λk=>by simp only[zaw.j3];rfl) ?_;refine eP trivial ?_;exact Ev.bind (zjW b s m e prec v dot hx (by omega) (by omega)) (Ev.now _)
  by_cases c1:z< -4
  ·rw[if_pos (.inl c1)];exact eP c1 hs
  ·refine eN c1 ?_;by_cases c2:z>=top
   ·rw[if_pos (.inr c2),decide_eq_true c2];exact hs
   ·rw[if_neg (by omega),decide_eq_false c2];refine Ev.step (λk=>by simp only[zaw.j3];rfl) ?_;refine eN (by simp) ?_;rw[zfN l (by omega)];simp only[Option.bind_some];(have hz: -100000<=firstL (l,q)+1/\firstL (l,q)+1<=100000:=by have:=zcQ (d:=(l,q)) hd.2;omega);rw[w64 (x:=firstL (l,q)+1) (by omega) (by omega),zgM b s m e prec v dot (by omega) hz,hzz];exact Ev.now _
 have h2: ∀(x:List UInt8),x≠[]->x.length<=2000->Ev (λk=>zaw.j1 k top keep (S x) b s m e prec dot v (S l) q) (S (if firstL (l,q)< -4\/firstL (l,q)>=top then sciL dot (bigV v) (if dot then fillL x keep else x) (firstL (l,q)) else aroundL dot (if dot then fillL x keep else x) (firstL (l,q)+1))):=by
  intro x hx hxl;refine Ev.step (λk=>by simp only[zaw.j1];rfl) ?_;cases dot with
  |true=>
   refine eP rfl ?_;have hfl:=zb7 x keep;rw[zdm (by omega) (by omega)];simp only[Option.bind_some];exact h3 _ (zgo hk.1) (by omega)
  |false=>
   refine eN (by simp) ?_;exact h3 x hx (by omega)
 refine Ev.step (λk=>by simp only[zaw.j0];rfl) ?_;unfold genL;dsimp only;by_cases c:l=[]
 ·refine eP ((zbD l).2 c) ?_;rw[if_pos c];exact h2 [48] (by simp) (by simp)
 ·refine eN (λe=>c ((zbD l).1 e)) ?_;rw[if_neg c];exact h2 l c hd.1
def shortL(wide:Bool)(p:Nat):List UInt8×Int:=if p=0 then([],0) else shortD wide p
def genOf(wide:Bool)(p:Nat)(m:Nat)(e prec:Int)(dot big:Bool):List UInt8:=
  if prec<0 then genL dot big (shortL wide p) 6 21 else genL dot big (roundN (exD m e).1 (exD m e).2 (max prec 1)) (max prec 1) (max prec 1)
theorem znm(wide:Bool){a p:Nat}(ha:a<18446744073709551616)(hb:bareN wide a=p)(hp:p<ii wide)(hs:(shortL wide p).1.length<=2000/\ -4000<=(shortL wide p).2/\(shortL wide p).2<=1500){m:Nat}(hm:m<18446744073709551616){e:Int}(h: -1200<=e/\e<=1200){prec:Int}(hq: -1<=prec/\prec<=1000)(v:Int)(dot:Bool):
 Ev (λk=>zaw.f k (a:Int) (szB wide) (m:Int) e prec dot v) (S (genOf wide p m e prec dot (bigV v))):=by
 unfold zaw.f genOf;by_cases c:prec<0
 ·rw[if_pos c];refine eP c ?_;have hx:=zh2 wide a ha;have e1:shortS wide a=(S (shortL wide p).1,(shortL wide p).2,0):=by
   unfold shortS shortL;rw[hb,if_neg (by omega)];split<;>rfl
  rw[e1] at hx;refine Ev.bind hx ?_;exact zhI _ _ _ _ _ v dot hs (by decide)
 ·rw[if_neg c];refine eN c ?_;have hn:=zdg hm h;have hbd:=zcm hn (max prec 1);refine Ev.bind (zfb _ _ hm h prec v dot) ?_;rw[zei];refine Ev.bind (zf7 hn (max prec 1)) ?_;exact zhI _ _ _ _ _ v dot (by omega) (by omega)
theorem zhJ(x j:Nat)(hj:j<=64):shl .u64 (x:Int) (j:Int)=((x*2^j%18446744073709551616:Nat):Int):=by
 unfold shl;rw[Int.toNat_natCast,show min j (IntKind.u64.bits)=j from Nat.min_eq_left (by simpa [IntKind.bits] using hj),IntKind.wrap_u64];rw[show((2:Int)^j)=((2^j:Nat):Int) by simp];generalize 2^j=P;rw[<-Int.natCast_mul];generalize x*P=y;omega
def hexEnd(dot up:Bool)(lead ds:List UInt8)(x:Int):List UInt8:=
  if up then Lib.toUpperA ([48,120]++(ptL dot lead ds++powL [112] x 2)) else [48,120]++(ptL dot lead ds++powL [112] x 2)
theorem zek(b s m e prec v:Int)(dot:Bool){lead ds:List UInt8}{x:Int}(hl:lead.length<=10/\Asc lead)(hd:ds.length<=2000/\Asc ds)(hx: -100000<=x/\x<=100000):
 Ev (λk=>zaj.j4 k (S lead) x (S ds) b s m e prec dot v) (S (hexEnd dot (v==88) lead ds x)):=by
 have h1:=zc0 dot lead ds;have h2:=zcV ([112]:List UInt8) (e:=x) (least:=2) (by decide);have ha:Asc ([48,120]++(ptL dot lead ds++powL [112] x 2)):=Asc.app (by decide) ((zdw hl.2 hd.2 dot).app (zeL (by decide) x 2));refine Ev.step (λk=>by simp only[zaj.j4];rfl) ?_;rw[zdd b s m e prec v dot (by omega)];simp only[Option.bind_some];rw[show(⟨#[112]⟩:ByteArray)=S [112] from rfl,zfM (by decide) hx (by decide)];simp only[Option.bind_some];rw[show(⟨#[48,120]⟩:ByteArray)=S [48,120] from rfl,zim (by simp at h2 ⊢;omega)];simp only[Option.bind_some];unfold hexEnd;by_cases c:v=88
 ·refine eP c ?_;rw[show(v==88)=true from beq_iff_eq.mpr c,if_pos rfl];have hu:zca.f (S ([48,120]++(ptL dot lead ds++powL [112] x 2)))=some (S (Lib.toUpperA ([48,120]++(ptL dot lead ds++powL [112] x 2)))):=by
   unfold zca.f;rw[if_pos ⟨by rw[zas];simp at h2 ⊢;omega,List.all_eq_true.2 (λc hc=>decide_eq_true (ha c hc))⟩];rfl
  rw[hu];exact Ev.now _
 ·refine eN c ?_;rw[show(v==88)=false from beq_eq_false_iff_ne.mpr c,if_neg (by simp)];exact Ev.now _
def hexUp(lead:List UInt8)(part p:Nat):Prop:=
  9223372036854775808<part*2^(4*p)%18446744073709551616\/(part*2^(4*p)%18446744073709551616=9223372036854775808/\(part / 2^(64-4*p)%2=1\/(p=0/\lead=[49])))
instance (lead : List UInt8) (part p : Nat) : Decidable (hexUp lead part p) := by unfold hexUp; infer_instance
def hexKept(lead:List UInt8)(part p:Nat):Nat:=if hexUp lead part p then part / 2^(64-4*p)+1 else part / 2^(64-4*p)
def hexMid(dot up:Bool)(lead:List UInt8)(part p:Nat)(x:Int):List UInt8:=
  let over:=0<hexKept lead part p / 2^(4*p)
  hexEnd dot up lead (if p=0 then [] else(sixL (if over then 0 else hexKept lead part p*2^(64-4*p)%18446744073709551616)).take p) (if over then x+1 else x)
def hexTail(dot up:Bool)(lead:List UInt8)(part:Nat)(x prec:Int):List UInt8:=
  if prec<0 then hexEnd dot up lead (rz (sixL part)) x else if prec>=16 then hexEnd dot up lead (fillL (sixL part) prec) x else hexMid dot up lead part prec.toNat x
def hexL(m:Nat)(e prec:Int)(dot up:Bool):List UInt8:=
  if m=0 then hexTail dot up [48] 0 0 prec else hexTail dot up [49] (m*2^(64-Lib.bitLen m)%18446744073709551616*2%18446744073709551616) (e+Lib.bitLen m-1) prec
theorem zd1(n:Nat):Asc (sixL n):=(zdv _).app (zhs (by decide) n)
theorem zkb{l:List UInt8}(h:Asc l):Asc (rz l):=by
 obtain⟨k,hk⟩:=zed l;intro c hc;exact h c (by rw[hk];exact List.mem_append_left _ hc)
theorem zkc(l:List UInt8):(rz l).length<=l.length:=zdi l
theorem zf8(b s m e v:Int)(dot:Bool){lead:List UInt8}(hl:lead=[48]\/lead=[49]){part:Nat}(hp:part<=18446744073709551615){x:Int}(hx: -90000<=x/\x<=90000){prec:Int}(hq: -1<=prec/\prec<=1000):
 Ev (λk=>zaj.j0 k (S lead) (part:Int) x b s m e prec dot v) (S (hexTail dot (v==88) lead part x prec)):=by
 (have A:lead.length<=10/\Asc lead:=by rcases hl with rfl|rfl<;>exact⟨by decide,by decide⟩);have hsl:=zfO hp;refine Ev.step (λk=>by simp only[zaj.j0];rfl) ?_;unfold hexTail;by_cases c1:prec<0
 ·refine eP c1 ?_;rw[if_pos c1,zhu hp];simp only[Option.bind_some];have hr:=zkc (sixL part);rw[trimR _ (by rw[zas];omega),L_S];simp only[Option.bind_some];exact zek b s m e prec v dot A ⟨by omega,zkb (zd1 _)⟩ (by omega)
 ·refine eN c1 ?_;rw[if_neg c1];by_cases c2:prec>=16
  ·refine eP c2 ?_;have hfl:=zb7 (sixL part) prec;rw[if_pos c2,zhu hp];simp only[Option.bind_some];rw[zdm (by omega) (by omega)];simp only[Option.bind_some];exact zek b s m e prec v dot A ⟨by omega,zcS (zd1 _) _⟩ (by omega)
  ·refine eN c2 ?_;rw[if_neg c2];obtain⟨p,rfl⟩: ∃p:Nat,prec=p:=⟨prec.toNat,by omega⟩;rw[Int.toNat_natCast];(have O:p<16:=by omega);have w1:IntKind.u64.wrap (wrap64 (64-wrap64 (4*(p:Int))))=((64-4*p:Nat):Int):=by
    rw[w64 (x:=4*(p:Int)) (by omega) (by omega),w64 (by omega) (by omega),show(64-4*(p:Int))=((64-4*p:Nat):Int) by omega];exact u64c _ (by omega)
   have w2:IntKind.u64.wrap (64-((64-4*p:Nat):Int))=((4*p:Nat):Int):=by
    rw[show(64-((64-4*p:Nat):Int))=((4*p:Nat):Int) by omega];exact u64c _ (by omega)
   rw[w1,w2];refine eP (by omega) ?_;have hlow: ∀low:Int,low=((part*2^(4*p)%18446744073709551616:Nat):Int)->Ev (λk=>zaj.j1 k (S lead) (part:Int) x (⟨#[]⟩:ByteArray) ((64-4*p:Nat):Int) low b s m e (p:Int) dot v) (S (hexMid dot (v==88) lead part p x)):=by
    intro low hlo;have hkb:part / 2^(64-4*p)<=18446744073709551615:=Nat.le_trans (Nat.div_le_self _ _) hp;have J:part / 2^(64-4*p)<2^(4*p):=by
     refine Nat.div_lt_of_lt_mul ?_;rw[<-Nat.pow_add,show 64-4*p+4*p=64 by omega];omega
    have hpw:2^(4*p)<=2^60:=Nat.pow_le_pow_right (by decide) (by omega);(have X:(2:Nat)^60=1152921504606846976:=by decide);have hsh:=zf4 part (64-4*p) (by omega);have key: ∀u:Bool,u=decide (hexUp lead part p)->Ev (λk=>zaj.j3 k (S lead) x (⟨#[]⟩:ByteArray) ((64-4*p:Nat):Int) ((part / 2^(64-4*p):Nat):Int) u b s m e (p:Int) dot v) (S (hexMid dot (v==88) lead part p x)):=by
     intro u hu;unfold hexMid hexKept;dsimp only
     have fin: ∀(kk:Nat) (y:Int),kk<=18446744073709551615-> -90001<=y/\y<=90001->
      Ev (λk=>if(p:Int)>0 then(if 0<=((64-4*p:Nat):Int) then((zbF.f (shl .u64 (kk:Int) ((64-4*p:Nat):Int))).bind λB=>(if 0<=(p:Int) then(if(p:Int)<=(B.size:Int) then(zaj.j4 k (S lead) y (B.extract 0 ((p:Int)).toNat) b s m e (p:Int) dot v) else none) else none)) else none) else(zaj.j4 k (S lead) y (⟨#[]⟩:ByteArray) b s m e (p:Int) dot v))
       (S (hexEnd dot (v==88) lead (if p=0 then [] else(sixL (kk*2^(64-4*p)%18446744073709551616)).take p) y)):=by
      intro kk y hkk hy
      by_cases c0:p=0
      ·subst c0
       exact eN (by decide) (zek (ds:=[]) b s m e _ v dot A ⟨by decide,Asc.nil⟩ (by omega))
      ·have D:kk*2^(64-4*p)%18446744073709551616<=18446744073709551615:=by omega
       have U:=zfO D
       refine eP (by omega) ?_
       refine eP (by omega) ?_
       rw[zhJ kk (64-4*p) (by omega),zhu D]
       simp only[Option.bind_some]
       refine eP (by omega) ?_
       refine eP (by rw[zas];omega) ?_
       rw[Int.toNat_natCast,zcE,if_neg c0]
       exact zek b s m e _ v dot A ⟨by rw[List.length_take];omega,(zd1 _).take p⟩ (by omega)
     refine Ev.step (λk=>by simp only[zaj.j3];rfl) ?_;by_cases cu:hexUp lead part p
     ·(have E:u=true:=by rw[hu];exact decide_eq_true cu);subst E;rw[if_pos cu];refine eP rfl ?_;generalize hK:part / 2^(64-4*p)=K at*
      (have I:K+1<=18446744073709551615:=by omega);have w3:IntKind.u64.wrap ((K:Int)+1)=((K+1:Nat):Int):=by
       rw[show((K:Int)+1)=((K+1:Nat):Int) by omega];exact u64c _ I
      rw[w2,w3,zf4 (K+1) (4*p) (by omega)];refine eP (by omega) ?_;by_cases co:0<(K+1) / 2^(4*p)
      ·refine eP (by omega) ?_;rw[if_pos co,if_pos co,w64 (x:=x+1) (by omega) (by omega)];have:=fin 0 (x+1) (by decide) (by omega);rw[Nat.zero_mul,Nat.zero_mod] at this;exact this
      ·refine eN (by omega) ?_;rw[if_neg co,if_neg co];exact fin (K+1) x I (by omega)
     ·(have E:u=false:=by rw[hu];exact decide_eq_false cu);subst E;have hz:part / 2^(64-4*p) / 2^(4*p)=0:=Nat.div_eq_of_lt J;rw[if_neg cu,hz];simp only[Nat.lt_irrefl,if_false];refine eN (by simp) ?_;exact fin _ x hkb (by omega)
    have j2: ∀odd:Bool,odd=decide (part / 2^(64-4*p)%2=1\/(p=0/\lead=[49]))->Ev (λk=>zaj.j2 k (S lead) x (⟨#[]⟩:ByteArray) ((64-4*p:Nat):Int) low ((part / 2^(64-4*p):Nat):Int) odd b s m e (p:Int) dot v) (S (hexMid dot (v==88) lead part p x)):=by
     intro odd hodd;refine Ev.step (λk=>by simp only[zaj.j2];rfl) ?_;rw[hlo];generalize hW:part*2^(4*p)%18446744073709551616=W at*
     by_cases d1:9223372036854775808<W
     ·refine eP (by omega) ?_;exact key true (by rw[eq_comm];refine decide_eq_true ?_;unfold hexUp;rw[hW];exact .inl d1)
     ·refine eN (by omega) ?_;by_cases d2:W=9223372036854775808
      ·refine eP (by omega) ?_;refine key odd ?_;rw[hodd];refine decide_eq_decide.2 ?_;unfold hexUp;rw[hW];exact⟨λh=>.inr ⟨d2,h⟩,λh=>h.elim (λh=>absurd h d1) (λh=>h.2)⟩
      ·refine eN (by omega) ?_;exact key false (by rw[eq_comm];refine decide_eq_false ?_;unfold hexUp;rw[hW];rintro(h|h);exact d1 h;exact d2 h.1)
    refine Ev.step (λk=>by simp only[zaj.j1];rfl) ?_;refine eP (by omega) ?_;rw[hsh,show Int.tmod ((part / 2^(64-4*p):Nat):Int) 2=((part / 2^(64-4*p)%2:Nat):Int) from tmodN _ 2];by_cases d:part / 2^(64-4*p)%2=1
    ·refine eP (by omega) ?_;exact j2 true (by rw[eq_comm];exact decide_eq_true (.inl d))
    ·refine eN (by omega) ?_;by_cases d0:p=0
     ·refine eP (by omega) ?_;refine j2 _ ?_;rw[zbn,L_S,Bool.eq_iff_iff];simp[d0];intro h;subst d0;exact absurd h d
     ·refine eN (by omega) ?_;exact j2 false (by rw[eq_comm];refine decide_eq_false ?_;rintro(h|h);exact d h;exact d0 h.1)
   by_cases c4:((64-4*p:Nat):Int)=64
   ·(have M:p=0:=by omega);refine eP c4 ?_;exact hlow _ (by subst M;simp;omega)
   ·refine eN c4 ?_;exact hlow _ (zhJ part (4*p) (by omega))
theorem bitLen_le: ∀(f x:Nat),Lib.bitLenAux f x<=f
 |0,_=>Nat.le_refl _
 |f+1,x=>by
  unfold Lib.bitLenAux
  split
  ·exact Nat.zero_le _
  ·have:=bitLen_le f (x / 2);omega
theorem znn(b s v:Int)(dot:Bool){m:Nat}(hm:m<18446744073709551616){e:Int}(h: -1200<=e/\e<=1200){prec:Int}(hq: -1<=prec/\prec<=1000):
 Ev (λk=>zaj.f k b s (m:Int) e prec dot v) (S (hexL m e prec dot (v==88))):=by
 unfold zaj.f hexL;by_cases c:m=0
 ·rw[if_pos c];refine eN (by omega) ?_;exact zf8 (lead:=[48]) (part:=0) b s (m:Int) e v dot (.inl rfl) (by decide) (by decide) hq
 ·rw[if_neg c];refine eP (by omega) ?_;have hb:=bitLen_le 64 m;have hL:bits_Len64.f (m:Int)=some (Lib.bitLen m:Int):=by
   unfold bits_Len64.f;rw[if_pos ⟨by omega,by omega⟩,Int.toNat_natCast]
  rw[hL];simp only[Option.bind_some];change Lib.bitLen m<=64 at hb;generalize Lib.bitLen m=n at*
  rw[w64 (x:=64-(n:Int)) (by omega) (by omega)];refine eP (by omega) ?_;rw[show(64-(n:Int))=((64-n:Nat):Int) by omega,zhJ m (64-n) (by omega),w64 (x:=e+(n:Int)) (by omega) (by omega),w64 (by omega) (by omega)];have w:IntKind.u64.wrap (((m*2^(64-n)%18446744073709551616:Nat):Int)*2)=((m*2^(64-n)%18446744073709551616*2%18446744073709551616:Nat):Int):=by
   rw[IntKind.wrap_u64];generalize m*2^(64-n)=y;omega
  rw[w];exact zf8 (lead:=[49]) b s (m:Int) e v dot (.inr rfl) (by omega) (by omega) hq
end Go.Proofs.YtilidabdbhaljaaGreatDoor.Pure
end
section
namespace Go.Proofs.YtilidabdbhaljaaGreatDoor.Pure
open Go.RowKit Go.Proofs.YtilidabdbhaljaaGreatDoorW.PrintWords Go.Proofs.YtilidabdbhaljaaGreatDoor.Fn
theorem zmv{a:List UInt8}{p:Int}(ha:InForm a p)(hna:a≠[])(hl:a.length<=2000)(hp: -7000<=p/\p<=5000)(u:Int)(hu:p-a.length<u)(Z:u<=50000):
 Ev (λk=>zak.j0 k u false (S a) p) (decS (roundN a p (p-u))):=by
 by_cases c1:p-u<0
 ·(have e:roundN a p (p-u)=([],0):=by unfold roundN;rw[if_pos c1]);rw[e];refine Ev.step (λk=>?_) (Ev.now _);simp only[zak.j0];rw[if_neg (λh=>by cases h),zaF (x:=p-u) (by omega) (by omega),if_pos c1];rfl
 ·obtain⟨n,hn⟩: ∃n:Nat,p-u=(n:Int):=⟨(p-u).toNat,by omega⟩;(have hnl:n<a.length:=by omega);(have O:u=p-n:=by omega);subst O;(have hlen:(a.take n).length=n:=by rw[List.length_take];omega);generalize hq:val (a.take n)=q at*
  have hqb:q<10^n:=by rw[<-hq];have:=zc2 (ha.1.take n);rwa [hlen] at this
  -- the floor
  have h1:=ze2 (S (a.take n)) p (by rw[zas];omega) (by omega) (by omega);rw[L_S,zcC (ha.1.take n),hlen,hq] at h1;obtain⟨f1,f2,f3⟩:=zcl hqb (p-n)
  -- the next
  (have b2:1<10^1:=by omega);have hone:(S ([49]:List UInt8),p-(n:Int)+1)=decS (decOf 1 (p-n)):=by
   unfold decS decOf;rw[if_neg (by omega)];have:digs 1=[49]:=rfl;rw[this];have:rz [49]=[49]:=rfl;rw[this];show(S [49],p-(n:Int)+1)=(S [49],((1:Nat):Int)+(p-n));congr 1;omega
  obtain⟨o1,o2,o3⟩:=zcl b2 (p-n);have h2:=zfp (zbx q (p-n)) (zbx 1 (p-n)) ⟨by omega,by omega,by omega⟩ ⟨by omega,by omega,by omega⟩;rw[zdJ] at h2;(have U:q+1<10^(n+1):=by rw[Nat.pow_succ];omega);obtain⟨x1,x2,x3⟩:=zcl U (p-n)
  -- twice the value, and the two neighbours' sum
  have hva:=zc2 ha.1;have eva:decOf (val a) (p-a.length)=(a,p):=zef ha;have h3:=zfp ha ha ⟨by omega,by omega,by omega⟩ ⟨by omega,by omega,by omega⟩;have e3:sumD a p a p=decOf (val a+val a) (p-a.length):=by
   have:=zdJ (val a) (val a) (p-a.length);rw[eva] at this;exact this
  rw[e3] at h3;have h4:=zfp (zbx q (p-n)) (zbx (q+1) (p-n)) ⟨by omega,by omega,by omega⟩ ⟨by omega,by omega,by omega⟩;rw[zdJ] at h4;(have X:val a+val a<10^(a.length+1):=by rw[Nat.pow_succ];omega);(have Y:q+(q+1)<10^(n+1):=by rw[Nat.pow_succ];omega);obtain⟨y1,y2,y3⟩:=zcl X (p-a.length);obtain⟨z1,z2,z3⟩:=zcl Y (p-n);have h5:=zl6 (zbx (val a+val a) (p-a.length)) (zbx (q+(q+1)) (p-n)) ⟨by omega,by omega,by omega⟩ ⟨by omega,by omega,by omega⟩;have e5:decOf (q+(q+1)) (p-n)=decOf ((q+(q+1))*10^(a.length-n)) (p-a.length):=by
   rw[<-zdE (q+(q+1)) (a.length-n) (p-n)];congr 1;omega
  have e6:cmpD (decOf (val a+val a) (p-a.length)).1 (decOf (val a+val a) (p-a.length)).2 (decOf (q+(q+1)) (p-n)).1 (decOf (q+(q+1)) (p-n)).2=cmpN (2*val (a.drop n)) (10^(a.length-n)):=by
   rw[e5,zgI,zne (show n<=a.length by omega),hq];generalize 10^(a.length-n)=M;have h8:=zfD (q*M+q*M) (2*val (a.drop n)) M;rw[<-h8];congr 1
   ·omega
   ·rw[Nat.add_mul,Nat.add_mul,Nat.one_mul,Nat.add_assoc]
  rw[e6] at h5;have hd:zbh.f (S (decOf q (p-n)).1) (decOf q (p-n)).2 (p-n)=some ((q%10:Nat):Int):=by
   by_cases h0:q=0
   ·subst h0;have:=digit_eq (l:=[]) (p:=0) (E:=min 0 (p-n)) (x:=p-n) AllD.nil (by simp;omega) (by omega) ⟨by simp,by omega,by omega,by omega,by omega⟩;unfold sv at this;rw[zbP,Nat.zero_mul,Nat.zero_div] at this;exact this
   ·have:=digit_eq (l:=(decOf q (p-n)).1) (p:=(decOf q (p-n)).2) (E:=p-n) (x:=p-n) (zbx q (p-n)).1 (zc3 h0 _) (by omega) ⟨by omega,by omega,by omega,by omega,by omega⟩;rw[zcU,show(p-(n:Int)-(p-n)).toNat=0 by omega,Nat.pow_zero,Nat.div_one] at this;exact this
  -- the walk
  have hgo: ∀k,zak.j0 (k+1) (p-n) false (S a) p=((zaB.f k (S (a.take n)) p).bind λB=>((zao.f k B.1 B.2 (S [49]) (p-n+1)).bind λA=>((zao.f k (S a) p (S a) p).bind λD=>((zao.f k B.1 B.2 A.1 A.2).bind λI=>((zai.f k D.1 D.2 I.1 I.2).bind λJ=>(if J<0 then(some (B.1,B.2)) else(if J=0 then((zbh.f B.1 B.2 (p-n)).bind λK=>(if(Int.tmod K 2)=0 then(some (B.1,B.2)) else(some (A.1,A.2)))) else(some (A.1,A.2))))))))):=by
   intro k;simp only[zak.j0];rw[if_neg (λh=>by cases h),zaF (x:=p-(p-(n:Int))) (by omega) (by omega),if_neg c1,if_pos (by omega),if_pos (by rw[zas];omega),zaF (x:=p-(n:Int)+1) (by omega) (by omega),show(p-(p-(n:Int))).toNat=n by omega,zcE];rfl
  refine Ev.step hgo ?_;refine Ev.bind h1 ?_;refine Ev.bind (f:=λ(k:Nat) (A:ByteArray×Int)=>((zao.f k (S a) p (S a) p).bind λD=>((zao.f k (decS (decOf q (p-n))).1 (decS (decOf q (p-n))).2 A.1 A.2).bind λI=>((zai.f k D.1 D.2 I.1 I.2).bind λJ=>(if J<0 then(some ((decS (decOf q (p-n))).1,(decS (decOf q (p-n))).2)) else(if J=0 then((zbh.f (decS (decOf q (p-n))).1 (decS (decOf q (p-n))).2 (p-n)).bind λK=>(if(Int.tmod K 2)=0 then(some ((decS (decOf q (p-n))).1,(decS (decOf q (p-n))).2)) else(some (A.1,A.2)))) else(some (A.1,A.2)))))))) (a:=decS (decOf (q+1) (p-n))) ?_ ?_
  ·(have e1:S [49]=(decS (decOf 1 (p-n))).1:=by rw[<-hone]);(have e2:p-(n:Int)+1=(decS (decOf 1 (p-n))).2:=by rw[<-hone]);rw[e1,e2];exact h2
  ·refine Ev.bind h3 (Ev.bind h4 (Ev.bind h5 ?_));have er:roundN a p (p-(p-n))=if downP a n then decOf q (p-n) else decOf (q+1) (p-n):=by
    rw[show p-(p-(n:Int))=(n:Int) by omega];unfold roundN;rw[if_neg (by omega),if_neg (by omega),Int.toNat_natCast,hq]
   rw[er];(have hdn:downP a n↔2*val (a.drop n)<10^(a.length-n)\/(2*val (a.drop n)=10^(a.length-n)/\q%2=0):=by unfold downP;rw[hq]);by_cases g1:2*val (a.drop n)<10^(a.length-n)
   ·rw[zdb g1,if_pos (hdn.2 (.inl g1))];exact Ev.congr (λk=>by rw[if_pos (by omega)]) (Ev.now _)
   ·by_cases g2:2*val (a.drop n)=10^(a.length-n)
    ·rw[g2,ze3];(have em:Int.tmod ((q%10:Nat):Int) 2=((q%2:Nat):Int):=by rw[zcY (x:=((q%10:Nat):Int)) (Int.natCast_nonneg _)];omega);by_cases g3:q%2=0
     ·rw[if_pos (hdn.2 (.inr ⟨g2,g3⟩))];refine Ev.congr (λk=>?_) (Ev.now _);rw[if_neg (by omega),if_pos rfl];show(zbh.f (S (decOf q (p-n)).1) (decOf q (p-n)).2 (p-n)).bind _=_;rw[hd,Option.bind_some,em,if_pos (by omega)]
     ·rw[if_neg (show¬downP a n from λh=>by rcases hdn.1 h with h|⟨_,h⟩<;>omega)];refine Ev.congr (λk=>?_) (Ev.now _);rw[if_neg (by omega),if_pos rfl];show(zbh.f (S (decOf q (p-n)).1) (decOf q (p-n)).2 (p-n)).bind _=_;rw[hd,Option.bind_some,em,if_neg (by omega)]
    ·rw[zdl (by omega),if_neg (show¬downP a n from λh=>by rcases hdn.1 h with h|⟨h,_⟩<;>omega)];exact Ev.congr (λk=>by rw[if_neg (by omega),if_neg (by omega)]) (Ev.now _)
theorem zgp{a:List UInt8}{p:Int}(ha:InForm a p)(hl:a.length<=2000)(hp: -7000<=p/\p<=5000)(u:Int)(B: -50000<=u/\u<=50000):
 Ev (λk=>zak.f k (S a) p u) (decS (roundN a p (p-u))):=by
 unfold zak.f;refine Ev.congr (f:=λk=>if u<=p-(a.length:Int) then zak.j0 k u true (S a) p else zak.j0 k u (a==([]:List UInt8)) (S a) p) (λk=>by rw[zdq a p (by omega),Option.bind_some,zbn,L_S]) ?_;by_cases c1:u<=p-a.length
 ·(have e:roundN a p (p-u)=(a,p):=by unfold roundN;rw[if_neg (by omega),if_pos (by omega)]);rw[e];refine Ev.congr (λk=>by rw[if_pos c1]) (Ev.step (f:=λ_=>some (S a,p)) (λk=>?_) (Ev.now _));simp only[zak.j0];rw[if_pos trivial]
 ·by_cases c2:a=[]
  ·subst c2;have A:p=0:=ha.2.2.2 rfl;have e:roundN [] p (p-u)=([],p):=by
    unfold roundN;by_cases c3:p-u<0
    ·rw[if_pos c3,A]
    ·rw[if_neg c3,if_pos (by simp;omega)]
   rw[e];refine Ev.congr (λk=>by rw[if_neg c1]) (Ev.step (f:=λ_=>some (S [],p)) (λk=>?_) (Ev.now _));simp only[zak.j0];rw[if_pos (show(([]:List UInt8)==[])=true from rfl)]
  ·(have e:(a==([]:List UInt8))=false:=by simpa using c2);refine Ev.congr (λk=>by rw[if_neg c1,e]) (zmv ha c2 hl hp u (by omega) (by omega))
theorem zi1(s:ByteArray)(p n:Int):Ev (λk=>zbL.f k s p n) (roundS s p λ_=>n):=by
 unfold zbL.f roundS;refine Ev.bind (zfA s p) ?_;rcases zcv s p with⟨e,h1,h2,_⟩|⟨l,u,h1,A,b1,b2,b3,_⟩
 ·rw[h1,if_neg h2];exact Ev.congr (λk=>by rw[if_neg h2]) (Ev.now _)
 ·rw[h1,if_pos rfl];show Ev _ (S (roundN (L (S l)) u n).1,(roundN (L (S l)) u n).2,0);rw[L_S];by_cases c1:n<0
  ·(have e:roundN l u n=([],0):=by unfold roundN;rw[if_pos c1]);rw[e];exact Ev.congr (λk=>by rw[if_pos rfl,if_pos c1];rfl) (Ev.now _)
  ·by_cases c2:n>2000
   ·(have e:roundN l u n=(l,u):=by unfold roundN;rw[if_neg c1,if_pos (by omega)]);rw[e];exact Ev.congr (λk=>by rw[if_pos rfl,if_neg c1,if_pos c2]) (Ev.now _)
   ·have h:=zgp A b1 ⟨b2,b3⟩ (u-n) (by omega);rw[show u-(u-n)=n by omega] at h;exact Ev.congr (λk=>by rw[if_pos rfl,if_neg c1,if_neg c2,zaF (x:=u-n) (by omega) (by omega)]) (Ev.bind (f:=λ_ bt=>some (bt.1,bt.2,0)) h (Ev.now _))
theorem zh4(s:ByteArray)(p n:Int):Ev (λk=>zbO.f k s p n) (roundS s p λu=>u+max (-20000) (min n 20000)):=by
 unfold zbO.f roundS;refine Ev.bind (zfA s p) ?_;rcases zcv s p with⟨e,h1,h2,_⟩|⟨l,u,h1,A,b1,b2,b3,_⟩
 ·rw[h1,if_neg h2];exact Ev.congr (λk=>by rw[if_neg h2]) (Ev.now _)
 ·rw[h1,if_pos rfl];show Ev _ (S (roundN (L (S l)) u (u+max (-20000) (min n 20000))).1,(roundN (L (S l)) u (u+max (-20000) (min n 20000))).2,0);rw[L_S];by_cases c2:n>20000
  ·(have e:roundN l u (u+max (-20000) (min n 20000))=(l,u):=by unfold roundN;rw[if_neg (by omega),if_pos (by omega)]);rw[e];exact Ev.congr (λk=>by rw[if_pos rfl,if_pos c2]) (Ev.now _)
  ·by_cases c1:n< -20000
   ·(have e:roundN l u (u+max (-20000) (min n 20000))=([],0):=by unfold roundN;rw[if_pos (by omega)]);rw[e];exact Ev.congr (λk=>by rw[if_pos rfl,if_neg c2,if_pos c1];rfl) (Ev.now _)
   ·have h:=zgp A b1 ⟨b2,b3⟩ (-n) (by omega);rw[show u- -n=u+max (-20000) (min n 20000) by omega] at h;exact Ev.congr (λk=>by rw[if_pos rfl,if_neg c2,if_neg c1,zaF (x:= -n) (by omega) (by omega)]) (Ev.bind (f:=λ_ bt=>some (bt.1,bt.2,0)) h (Ev.now _))
theorem zlm(wide:Bool)(n:Nat){e:Int}(he: -(vv:Int)<=e):dX wide (val (decOf n e).1) ((decOf n e).2-(decOf n e).1.length)=dX wide n e:=by
 by_cases h:n=0
 ·subst h;rw[zc9];unfold dX;rw[zbP,Nat.zero_mul,Nat.zero_mul,Nat.zero_mul,Nat.zero_mul]
 ·have h1:=zcU n e;have h2:=zc3 h e;unfold sv at h1;generalize (decOf n e).2-((decOf n e).1.length:Int)=x at*
  obtain⟨j,rfl⟩: ∃j:Nat,x=e+j:=⟨(x-e).toNat,by omega⟩;(have e1:(e+(j:Int)-e).toNat=j:=by omega);(have e2:(e+(j:Int)+(vv:Int)).toNat=j+(e+(vv:Int)).toNat:=by omega);rw[e1] at h1;unfold dX;rw[e2,Nat.pow_add,<-Nat.mul_assoc,h1]
theorem zix(wide:Bool){n k:Nat}{e:Int}(h:n<10^k)(hk:k<=1400)(he: -3000<=e)(h2:e+k<=3000):rdS wide (S (decOf n e).1) (decOf n e).2=((rdX wide (dX wide n e):Int),0):=by
 have hb:=zc4 h hk he h2;have hv:=zdr;unfold rdS;rw[zcN (zbx n e) hb.1 hb.2,if_pos rfl];simp only[L_S];rw[zlm wide n (by omega)]
theorem zkd{m n:Nat}{e:Int}(h:decOf m e=decOf n e):m=n:=by
 have:=zcU m e;rw[h,zcU] at this;exact this.symm
theorem cand{wide:Bool}{p:Nat}{v:List UInt8×Int}(hv:Val wide p v){n:Nat}(hn:n<v.1.length):
 cU v n<10^n/\cU v n+1<10^(n+1)/\n<=1400/\n+1<=1400/\ -3000<=cE v n/\cE v n+(n:Int)<=3000/\cE v n+((n+1:Nat):Int)<=3000:=by
 have hl:=hv.len;have hlo:=hv.lo;have hhi:=hv.hi;have hu:=zi0 hv n hn;refine⟨hu,?_,by omega,by omega,by unfold cE;omega,by unfold cE;omega,by unfold cE;omega⟩;rw[Nat.pow_succ];have:1<=10^n:=Nat.pow_pos (by omega);omega
theorem zc5(wide:Bool)(p:Nat)(v:List UInt8×Int)(d n:Nat):shortGo wide p v (d+1) n=(bestD wide p v n).getD (shortGo wide p v d (n+1)):=by
 (conv=>lhs;unfold shortGo);cases bestD wide p v n<;>rfl
theorem zlI{l:Nat}{q:Int}(h:l<=2000/\ -5000<=q/\q<=5000):l<=4000/\ -10000<=q/\q<=10000:=by omega
theorem zfP{P:Int}{n:Nat}(h1: -1200<=P)(h2:P<=1300)(h3:n<=1400):wrap64 (P-(n:Int))=P-n/\(-50000<=P-(n:Int)/\P-(n:Int)<=50000)/\P-(P-(n:Int))=n/\(-7000<=P/\P<=5000)/\wrap64 (wrap64 (P-(n:Int))+1)=P-n+1/\wrap64 ((n:Int)+1)=((n+1:Nat):Int):=by
 refine⟨zaF (by omega) (by omega),by omega,by omega,by omega,?_,?_⟩
 ·rw[zaF (x:=P-(n:Int)) (by omega) (by omega),zaF (by omega) (by omega)]
 ·rw[zaF (by omega) (by omega)];omega
theorem zno{wide:Bool}{p:Nat}{v:List UInt8×Int}(hv:Val wide p v){n:Nat}(hn:n<v.1.length):Ev (λk=>zak.f k (S v.1) v.2 (wrap64 (v.2-(n:Int)))) (decS (decOf (nearU v n) (cE v n))):=by
 have ha:=zfP hv.lo hv.hi (n:=n) (cand hv hn).2.2.1;have:=zgp hv.form hv.five.1 ha.2.2.2.1 (v.2-(n:Int)) ha.2.1;rw[ha.2.2.1,ziv hv n hn] at this;rw[ha.1];exact this
theorem zmw{wide:Bool}{p:Nat}{v:List UInt8×Int}(hv:Val wide p v){n:Nat}(hn:n<v.1.length):Ev (λk=>zaB.f k ((S v.1).extract 0 ((n:Int)).toNat) v.2) (decS (decOf (cU v n) (cE v n))):=by
 (have htl:(v.1.take n).length=n:=by rw[List.length_take,Nat.min_eq_left (Nat.le_of_lt hn)]);have h1:=hv.len;have h2:=hv.lo;have h3:=hv.hi;have hin:=ze2 (S (v.1.take n)) v.2 (by rw[zas,htl];omega) (by omega) (by omega);rw[L_S,zcC (hv.form.1.take n),htl] at hin;rw[Int.toNat_natCast,zcE];exact hin
theorem znp{e:Int}{k:Nat}(h:e+(k:Int)<=3000)(he: -3000<=e)(hk:1<=k):e+((1:Nat):Int)<=3000:=by omega
theorem zmx{wide:Bool}{p:Nat}{v:List UInt8×Int}(hv:Val wide p v){n:Nat}(hn:n<v.1.length):Ev (λk=>zao.f k (S (decOf (cU v n) (cE v n)).1) (decOf (cU v n) (cE v n)).2 (⟨#[49]⟩:ByteArray) (wrap64 (wrap64 (v.2-(n:Int))+1))) (decS (decOf (cU v n+1) (cE v n))):=by
 obtain⟨g1,g2,g3,g4,g5,g6,g7⟩:=cand hv hn;have ha:=(zfP hv.lo hv.hi (n:=n) g3).2.2.2.2.1;have hone:=zgO (cE v n);have A:(S ([49]:List UInt8))=S (decOf 1 (cE v n)).1:=congrArg Prod.fst hone;have B:cE v n+1=(decOf 1 (cE v n)).2:=congrArg Prod.snd hone;have hsum:=zfp (zbx (cU v n) (cE v n)) (zbx 1 (cE v n)) (zlI (zc4 g1 g3 g5 g6)) (zlI (zc4 (n:=1) (k:=1) (by decide) (by decide) g5 (znp g7 g5 (Nat.le_add_left 1 n))));rw[zdJ,<-A,<-B] at hsum;rw[ha];exact hsum
theorem zmy{w:Bool}{v lo hi:List UInt8×Int}{x1 x2 p:Nat}{nu u:Nat}{E nn:Int}{d:Nat->Option (ByteArray×Int×Int)}{r:ByteArray×Int×Int}(hlo:lo=decOf u E)(hhi:hi=decOf (u+1) E)(hnu:nu=u\/nu=u+1)
 {R:Nat->Prop} [DecidablePred R] (h1:R u↔x1=p) (h2:R (u+1)↔x2=p)
 (hnear:Ev (λk=>zak.f k (S v.1) v.2 (wrap64 (v.2-nn))) (decS (decOf nu E)))
 (hrec:Ev (λk=>zan.l0 k (szB w) (p:Int) (wrap64 (nn+1)) (S v.1) v.2) r):
 Ev (λk=>if(x1:Int)=(p:Int) then zan.j1 k (szB w) (p:Int) nn (x1:Int) (x2:Int) false (S v.1) v.2 (S lo.1) lo.2 (S hi.1) hi.2 else zan.j1 k (szB w) (p:Int) nn (x1:Int) (x2:Int) ((x2:Int)!=(p:Int)) (S v.1) v.2 (S lo.1) lo.2 (S hi.1) hi.2)
  (if R nu then((decS (decOf nu E)).1,(decS (decOf nu E)).2,0) else if R u then(S lo.1,lo.2,0) else if R (u+1) then(S hi.1,hi.2,0) else r):=by
 by_cases c1:x1=p
 ·refine eP (by rw[c1]) ?_;refine Ev.step (λk=>by simp only[zan.j1];rfl) ?_;refine eN (by decide) ?_;refine eP (by rw[c1]) ?_;by_cases c2:x2=p
  ·refine eP (by rw[c2]) ?_;refine Ev.bind hnear ?_;refine Ev.congr (λk=>?_) (Ev.now _);rcases hnu with hh|hh
   ·rw[hh,if_pos (h1.2 c1),hlo];rw[if_pos (by simp[decS])];rfl
   ·rw[hh,if_pos (h2.2 c2),hlo,hhi];have hne: ¬(((decS (decOf (u+1) E)).1.toList==(S (decOf u E).1).toList&&((decS (decOf (u+1) E)).2==(decOf u E).2))=true):=by
     intro hq;rw[Bool.and_eq_true,beq_iff_eq,beq_iff_eq] at hq;unfold decS at hq;rw[zbn,zbn,L_S,L_S] at hq;have:=zkd (Prod.ext hq.1 hq.2);omega
    rw[if_neg hne];rfl
  ·refine eN (λh=>c2 (Int.ofNat.inj h)) ?_;refine Ev.congr (λk=>?_) (Ev.now _);rcases hnu with hh|hh
   ·rw[hh,if_pos (h1.2 c1),hlo];rfl
   ·rw[hh,if_neg (λh=>c2 (h2.1 h)),if_pos (h1.2 c1)]
 ·refine eN (λh=>c1 (Int.ofNat.inj h)) ?_;refine Ev.step (λk=>by simp only[zan.j1];rfl) ?_;by_cases c2:x2=p
  ·refine eN (by rw[c2];simp) ?_;refine eN (λh=>c1 (Int.ofNat.inj h)) ?_;refine Ev.congr (λk=>?_) (Ev.now _);rcases hnu with hh|hh
   ·rw[hh,if_neg (λh=>c1 (h1.1 h)),if_neg (λh=>c1 (h1.1 h)),if_pos (h2.2 c2)]
   ·rw[hh,if_pos (h2.2 c2),hhi];rfl
  ·refine eP (bne_iff_ne.2 (λh=>c2 (Int.ofNat.inj h))) ?_;have hnone:(if R nu then((decS (decOf nu E)).1,(decS (decOf nu E)).2,(0:Int)) else if R u then(S lo.1,lo.2,0) else if R (u+1) then(S hi.1,hi.2,0) else r)=r:=by
    rcases hnu with hh|hh
    ·rw[hh,if_neg (λh=>c1 (h1.1 h)),if_neg (λh=>c1 (h1.1 h)),if_neg (λh=>c2 (h2.1 h))]
    ·rw[hh,if_neg (λh=>c2 (h2.1 h)),if_neg (λh=>c1 (h1.1 h)),if_neg (λh=>c2 (h2.1 h))]
   rw[hnone];exact hrec
theorem zln{wide:Bool}{p:Nat}{v:List UInt8×Int}(hv:Val wide p v): ∀(d n:Nat),v.1.length<=n+d->n<=2000->
 Ev (λk=>zan.l0 k (szB wide) (p:Int) (n:Int) (S v.1) v.2) (S (shortGo wide p v d n).1,(shortGo wide p v d n).2,0):=by
 intro d;induction d with
 |zero=>
  intro n h hn;refine Ev.step (λk=>by simp only[zan.l0];rfl) ?_;rw[zas];exact eN (by omega) (Ev.now _)
 |succ d ih=>
  intro n h hn;refine Ev.step (λk=>by simp only[zan.l0];rfl) ?_;rw[zas];rw[zc5];by_cases c0:v.1.length<=n
  ·rw[zdy wide p v c0];exact eN (by omega) (Ev.now _)
  ·have A:n<v.1.length:=Nat.lt_of_not_le c0;refine eP (by omega) ?_;refine eP (by omega) ?_;refine eP (by omega) ?_;have hrec:=ih (n+1) (by omega) (by have:=hv.len;omega);refine Ev.bind (zmw hv A) ?_;refine Ev.bind (zmx hv A) ?_;obtain⟨g1,g2,g3,g4,g5,g6,g7⟩:=cand hv A;have r1:=zhG wide (S (decOf (cU v n) (cE v n)).1) (decOf (cU v n) (cE v n)).2;rw[zix wide g1 g3 g5 g6] at r1;have r2:=zhG wide (S (decOf (cU v n+1) (cE v n)).1) (decOf (cU v n+1) (cE v n)).2;rw[zix wide g2 g4 g5 g7] at r2;refine Ev.bind r1 ?_;refine Ev.bind r2 ?_;have hwn:=(zfP hv.lo hv.hi (n:=n) g3).2.2.2.2.2;rw[<-hwn] at hrec;have hpk:=zmy (w:=wide) (v:=v) (p:=p) (x1:=rdX wide (dX wide (cU v n) (cE v n))) (x2:=rdX wide (dX wide (cU v n+1) (cE v n))) (nn:=(n:Int)) (d:=λ_=>none) rfl rfl (zfa v n) (R:=λu=>isP wide p u (cE v n)) Iff.rfl Iff.rfl (zno hv A) hrec;unfold bestD;rw[if_neg c0];have fin:(if isP wide p (nearU v n) (cE v n) then some (decOf (nearU v n) (cE v n)) else if isP wide p (cU v n) (cE v n) then some (decOf (cU v n) (cE v n)) else if isP wide p (cU v n+1) (cE v n) then some (decOf (cU v n+1) (cE v n)) else none).getD (shortGo wide p v d (n+1))=(if isP wide p (nearU v n) (cE v n) then decOf (nearU v n) (cE v n) else if isP wide p (cU v n) (cE v n) then decOf (cU v n) (cE v n) else if isP wide p (cU v n+1) (cE v n) then decOf (cU v n+1) (cE v n) else shortGo wide p v d (n+1)):=by
    by_cases d1:isP wide p (nearU v n) (cE v n)
    ·rw[if_pos d1,if_pos d1];rfl
    ·rw[if_neg d1,if_neg d1];by_cases d2:isP wide p (cU v n) (cE v n)
     ·rw[if_pos d2,if_pos d2];rfl
     ·rw[if_neg d2,if_neg d2];by_cases d3:isP wide p (cU v n+1) (cE v n)
      ·rw[if_pos d3,if_pos d3];rfl
      ·rw[if_neg d3,if_neg d3];rfl
   rw[fin];refine Ev.congr (λk=>rfl) ?_
   have B:(S (if isP wide p (nearU v n) (cE v n) then decOf (nearU v n) (cE v n) else if isP wide p (cU v n) (cE v n) then decOf (cU v n) (cE v n) else if isP wide p (cU v n+1) (cE v n) then decOf (cU v n+1) (cE v n) else shortGo wide p v d (n+1)).1,(if isP wide p (nearU v n) (cE v n) then decOf (nearU v n) (cE v n) else if isP wide p (cU v n) (cE v n) then decOf (cU v n) (cE v n) else if isP wide p (cU v n+1) (cE v n) then decOf (cU v n+1) (cE v n) else shortGo wide p v d (n+1)).2,(0:Int))
    =(if isP wide p (nearU v n) (cE v n) then((decS (decOf (nearU v n) (cE v n))).1,(decS (decOf (nearU v n) (cE v n))).2,0) else if isP wide p (cU v n) (cE v n) then(S (decOf (cU v n) (cE v n)).1,(decOf (cU v n) (cE v n)).2,0) else if isP wide p (cU v n+1) (cE v n) then(S (decOf (cU v n+1) (cE v n)).1,(decOf (cU v n+1) (cE v n)).2,0) else(S (shortGo wide p v d (n+1)).1,(shortGo wide p v d (n+1)).2,0)):=by
    by_cases d1:isP wide p (nearU v n) (cE v n)
    ·rw[if_pos d1,if_pos d1];rfl
    ·rw[if_neg d1,if_neg d1]
     by_cases d2:isP wide p (cU v n) (cE v n)
     ·rw[if_pos d2,if_pos d2]
     ·rw[if_neg d2,if_neg d2]
      by_cases d3:isP wide p (cU v n+1) (cE v n)
      ·rw[if_pos d3,if_pos d3]
      ·rw[if_neg d3,if_neg d3]
   rw[B];exact hpk
theorem zlo(wide:Bool)(a:Nat)(ha:a<18446744073709551616)(hfin:bareN wide a<ii wide):Ev (λk=>zb8.f k (a:Int) (szB wide)) (S (exV wide (bareN wide a)).1,(exV wide (bareN wide a)).2):=by
 unfold zb8.f;refine Ev.bind (ze4 wide a ha) ?_;unfold partsS;rw[if_pos hfin];have h1:=fEl wide (Nat.le_of_lt hfin);have h2:=zdT wide (Nat.le_of_lt hfin);have hx:=zgD (fM (ff wide) (bareN wide a)) ((fE (ff wide) (bareN wide a):Int)-(ll wide:Int)) (by omega);rw[zcW _ (by omega)] at hx;exact Ev.bind (f:=λ_ bt=>some (bt.1,bt.2.1)) hx (Ev.now _)
theorem zhK(wide:Bool)(a:Nat)(ha:a<18446744073709551616):Ev (λk=>zan.f k (a:Int) (szB wide)) (shortS wide a):=by
 unfold zan.f;rw[zfH];simp only[Option.bind_some,if_true];refine Ev.bind (ze4 wide a ha) ?_;unfold shortS;by_cases c:bareN wide a<ii wide
 ·(have e:(partsS wide a).2.2.2=0:=by unfold partsS;rw[if_pos c]);rw[if_neg (by omega)];refine eP e ?_;refine Ev.bind (bare_eq wide a) ?_;refine Ev.bind (zlo wide a ha c) ?_;have h:=zln (zfq wide c) (exV wide (bareN wide a)).1.length 1 (by omega) (by omega);by_cases c2:bareN wide a=0
  ·rw[if_pos c2];have hz:exV wide 0=([],0):=by
    (have h0:fM (ff wide) 0=0:=by cases wide<;>decide);unfold exV exD;rw[h0,Nat.zero_mul];rfl
   have hs:shortGo wide 0 (exV wide 0) (exV wide 0).1.length 1=([],0):=by
    rw[hz];rfl
   rw[c2] at h ⊢;rw[hs] at h;exact h
  ·rw[if_neg c2];exact h
 ·have e:(partsS wide a).2.2.2≠0:=by
   unfold partsS;rw[if_neg c];simp only;split<;>decide
  rw[if_pos (by omega)];exact eN e (Ev.now _)
theorem wf_u64{a:Int}(h:(Lit.int .u64 a).wf=true): ∃n:Nat,a=n/\n<18446744073709551616:=by
 have h2:0<=a/\a<18446744073709551616:=by
  simp[Lit.wf,IntKind.min,IntKind.max,IntKind.bits,IntKind.signed] at h;omega
 exact⟨a.toNat,by omega,by omega⟩
theorem znJ(wide:Bool){p:Nat}(hp:p<ii wide):dX wide (val (exV wide p).1) ((exV wide p).2-(exV wide p).1.length)=fW (ff wide) p*(2*CC):=by
 have hv:=zfq wide hp;have h1:=hv.len;have h2:=hv.lo;have h3:=zdr;have hc:=zh1 wide (Nat.le_of_lt hp) (l:=(exV wide p).1) (q:=(exV wide p).2) hv.form (by omega);have h0:cmpD (exV wide p).1 (exV wide p).2 (exV wide p).1 (exV wide p).2=0:=by
  unfold cmpD;exact ze3 _
 have A:cmpD (exV wide p).1 (exV wide p).2 (exV wide p).1 (exV wide p).2=cmpN (fW (ff wide) p*(2*CC)) (dX wide (val (exV wide p).1) ((exV wide p).2-(exV wide p).1.length)):=hc;rw[h0] at A;exact((ze8 _ _).1 A.symm).symm
theorem zlp(wide:Bool){p:Nat}(hp:p<ii wide):rdX wide (fW (ff wide) p*(2*CC))=p:=by
 have hC:=zey;have m:=zep (zg5 (f:=ff wide) (Nat.lt_succ_self p)) hC;simp only[Nat.succ_eq_add_one] at m;have hfl:fFloor (ff wide) (ii wide) (fW (ff wide) p*(2*CC)) (2*CC) p:=⟨Nat.le_of_lt hp,Nat.le_refl _,λ_=>Nat.lt_trans m.1 m.2⟩;rw[ziX wide hfl,if_neg (Nat.ne_of_lt hp),if_neg];rintro(h|h)
 ·exact Nat.lt_asymm h m.1
 ·exact absurd h.1 (Nat.ne_of_lt m.1)
theorem zmz(wide:Bool)(p:Nat)(v:List UInt8×Int): ∀d n,v.1.length<=n+d-> ∃N,n<=N/\bestD wide p v N=some (shortGo wide p v d n)/\ ∀j,n<=j->j<N->bestD wide p v j=none:=by
 intro d;induction d with
 |zero=>
  intro n h;exact⟨n,Nat.le_refl _,zdy wide p v h,λj h1 h2=>absurd h1 (Nat.not_le.2 h2)⟩
 |succ d ih=>
  intro n h;rw[zc5];cases hb:bestD wide p v n with
  |some r=>exact⟨n,Nat.le_refl _,hb,λj h1 h2=>absurd h1 (Nat.not_le.2 h2)⟩
  |none=>
   obtain⟨N,h1,h2,h3⟩:=ih (n+1) (by omega);refine⟨N,by omega,h2,λj h4 h5=>?_⟩;by_cases c:j=n
   ·rw[c];exact hb
   ·exact h3 j (by omega) h5
theorem zi2(wide:Bool)(p:Nat): ∃N,1<=N/\bestD wide p (exV wide p) N=some (shortD wide p)/\ ∀j,1<=j->j<N->bestD wide p (exV wide p) j=none:=
 zmz wide p (exV wide p) (exV wide p).1.length 1 (Nat.le_add_left _ _)
theorem zke{wide:Bool}{p:Nat}{v d:List UInt8×Int}{n:Nat}(h:bestD wide p v n=some d):(v.1.length<=n/\d=v)\/(n<v.1.length/\ ∃u,(u=cU v n\/u=cU v n+1)/\d=decOf u (cE v n)/\isP wide p u (cE v n)):=by
 unfold bestD at h;by_cases c1:v.1.length<=n
 ·rw[if_pos c1] at h;exact .inl ⟨c1,(Option.some.inj h).symm⟩
 ·rw[if_neg c1] at h;refine .inr ⟨Nat.lt_of_not_le c1,?_⟩;by_cases c2:isP wide p (nearU v n) (cE v n)
  ·rw[if_pos c2] at h;exact⟨_,zfa v n,(Option.some.inj h).symm,c2⟩
  ·rw[if_neg c2] at h;by_cases c3:isP wide p (cU v n) (cE v n)
   ·rw[if_pos c3] at h;exact⟨_,.inl rfl,(Option.some.inj h).symm,c3⟩
   ·rw[if_neg c3] at h;by_cases c4:isP wide p (cU v n+1) (cE v n)
    ·rw[if_pos c4] at h;exact⟨_,.inr rfl,(Option.some.inj h).symm,c4⟩
    ·rw[if_neg c4] at h;cases h
end Go.Proofs.YtilidabdbhaljaaGreatDoor.Pure
end
section
namespace Go.Proofs.YtilidabdbhaljaaGreatDoor.Fn
open Go.RowKit Go.Proofs.YtilidabdbhaljaaGreatDoorW.PrintWords Go.Proofs.YtilidabdbhaljaaGreatDoorW.PrintLast Go.Proofs.YtilidabdbhaljaaGreatDoorW.PrintMore
set_option maxHeartbeats 8000000
set_option maxRecDepth 100000
section
attribute [local go_sem] fnW_0 fnW_1 fnW_2 fnW_3 fnW_4 fnW_5 fnW_guard fnW_eql zaC zaD zaI zaJ
mutual
def zar.j0:Nat->Int->Int->Bool->Int->Int->Int->Int->Bool->Bool->Bool->Bool->Bool->Bool->Int->Int->Int->Option (ByteArray×Bool)
 |0,_,_,_,_,_,_,_,_,_,_,_,_,_,_,_,_=>none
 |k+1,x0,x1,x8,x9,U,O,X,Y,A,B,D,E,I,J,K,M=>if Y=true then(some ((⟨#[]⟩:ByteArray),false)) else(if x8=true then(zar.j1 k x0 x1 x9 U O X (⟨#[]⟩:ByteArray) (O !=2) A B D E I J K M) else(zar.j1 k x0 x1 x9 U O X (⟨#[]⟩:ByteArray) false A B D E I J K M))
def zar.j2:Nat->Int->Int->Int->Int->Int->Int->ByteArray->Bool->Bool->Bool->Bool->Bool->Int->Int->Int->Option (ByteArray×Bool)
 |0,_,_,_,_,_,_,_,_,_,_,_,_,_,_,_=>none
 |k+1,x0,x1,x9,U,Y,X,O,E,I,D,J,M,K,B,A=>if Y=2 then(zar.j3 k O (⟨#[78,97,78]⟩:ByteArray) E I D J false K B A) else(if Y=1 then(zar.j3 k O (⟨#[73,110,102]⟩:ByteArray) E I D J false K B A) else(if D=true then(if X=1 then((zaQ.f k x0 x1 x9 U (mx (-1) (mn B 1000)) (A !=118) A).bind λZ=>(zar.j3 k O Z E I D J M K B A)) else(if X=2 then((zaH.f k x0 x1 x9 U (mx (-1) (mn B 1000)) (A !=118) A).bind λaa=>(zar.j3 k O aa E I D J M K B A)) else(if X=3 then((zaw.f k x0 x1 x9 U (mx (-1) (mn B 1000)) (A !=118) A).bind λab=>(zar.j3 k O ab E I D J M K B A)) else(if X=4 then((zbg.f x0 x1 x9 U (mx (-1) (mn B 1000)) (A !=118) A).bind λac=>(zar.j3 k O ac E I D J M K B A)) else(if X=5 then((zaj.f k x0 x1 x9 U (mx (-1) (mn B 1000)) (A !=118) A).bind λad=>(zar.j3 k O ad E I D J M K B A)) else(none)))))) else(if X=1 then((zaQ.f k x0 x1 x9 U (mx (-1) (mn B 1000)) false A).bind λae=>(zar.j3 k O ae E I D J M K B A)) else(if X=2 then((zaH.f k x0 x1 x9 U (mx (-1) (mn B 1000)) false A).bind λaf=>(zar.j3 k O af E I D J M K B A)) else(if X=3 then((zaw.f k x0 x1 x9 U (mx (-1) (mn B 1000)) false A).bind λag=>(zar.j3 k O ag E I D J M K B A)) else(if X=4 then((zbg.f x0 x1 x9 U (mx (-1) (mn B 1000)) false A).bind λah=>(zar.j3 k O ah E I D J M K B A)) else(if X=5 then((zaj.f k x0 x1 x9 U (mx (-1) (mn B 1000)) false A).bind λai=>(zar.j3 k O ai E I D J M K B A)) else(none))))))))
def zar.j3:Nat->ByteArray->ByteArray->Bool->Bool->Bool->Bool->Bool->Int->Int->Int->Option (ByteArray×Bool)
 |0,_,_,_,_,_,_,_,_,_,_=>none
 |k+1,O,U,D,A,E,I,B,J,K,M=>if B=true then(zar.j4 k O U (!A) D A E I B J K M) else(zar.j4 k O U false D A E I B J K M)
def zar.j4:Nat->ByteArray->ByteArray->Bool->Bool->Bool->Bool->Bool->Bool->Int->Int->Int->Option (ByteArray×Bool)
 |0,_,_,_,_,_,_,_,_,_,_,_=>none
 |k+1,O,M,aa,B,D,E,I,X,A,J,K=>if aa=true then((zcf.f 48 (wrap64 ((wrap64 ((mx 0 (mn A 1000))-(O.size:Int)))-(M.size:Int)))).bind λU=>(if U.size+M.size<=9223372036854775807 then(if O.size+(U++M).size<=9223372036854775807 then((zci.f (O++(U++M)) B D E I false A J K).bind λY=>(some (Y,true))) else(none)) else(none))) else(if O.size+M.size<=9223372036854775807 then((zci.f (O++M) B D E I false A J K).bind λZ=>(some (Z,true))) else(none))
def zar.j1:Nat->Int->Int->Int->Int->Int->Int->ByteArray->Bool->Bool->Bool->Bool->Bool->Bool->Int->Int->Int->Option (ByteArray×Bool)
 |0,_,_,_,_,_,_,_,_,_,_,_,_,_,_,_,_=>none
 |k+1,x0,x1,x9,U,O,X,Y,Z,A,D,E,B,I,J,K,M=>if Z=true then(zar.j2 k x0 x1 x9 U O X (⟨#[45]⟩:ByteArray) A D E B I J K M) else(if A=true then(zar.j2 k x0 x1 x9 U O X (⟨#[43]⟩:ByteArray) A D E B I J K M) else(if B=true then(zar.j2 k x0 x1 x9 U O X (⟨#[32]⟩:ByteArray) A D E B I J K M) else(if O=1 then(zar.j2 k x0 x1 x9 U O X (⟨#[43]⟩:ByteArray) A D E B I J K M) else(zar.j2 k x0 x1 x9 U O X Y A D E B I J K M))))
end
def zar.f(k:Nat)(a0:Int)(a1:Int)(E:Bool)(I:Bool)(J:Bool)(K:Bool)(M:Bool)(O:Int)(U:Int)(B:Int):Option (ByteArray×Bool):=(zcM.f a0 a1).bind λA=>((za4.f k B).bind λD=>(if A.2.2.2=3 then(zar.j0 k a0 a1 A.1 A.2.1 A.2.2.1 A.2.2.2 D true E I J K M O U B) else(zar.j0 k a0 a1 A.1 A.2.1 A.2.2.1 A.2.2.2 D (D==0) E I J K M O U B)))
theorem zar.calls(k:Nat)(a0:Int)(a1:Int)(J:Bool)(K:Bool)(ae:Bool)(M:Bool)(O:Bool)(E:Int)(I:Int)(A:Int)(r1:ByteArray)(r2:Bool)(w:World)(h:zar.f k a0 a1 J K ae M O E I A=some (r1,r2)):
  Calls Tryz.prog 18 #[.int .u64 a0,.int .i64 a1,.agg #[.bool J,.bool K,.bool ae,.bool M,.bool O,.int .i64 E,.int .i64 I,.int .i32 A]] w λe w'=>e= .returned (.tuple #[.string r1,.bool r2])/\Below w.heap.size w w':=by
 have l5:=Tryz.underlying26;have l6:=Tryz.underlying52;have HB:=zaa.mk (Below.refl w.heap.size w);have H:((zcM.f a0 a1).bind λam=>((za4.f k A).bind λah=>(if am.2.2.2=3 then(zar.j0 k a0 a1 am.1 am.2.1 am.2.2.1 am.2.2.2 ah true J K ae M O E I A) else(zar.j0 k a0 a1 am.1 am.2.1 am.2.2.1 am.2.2.2 ah (ah==0) J K ae M O E I A))))=some (r1,r2):=h;clear h;replace H:=bs H;obtain⟨⟨bf,ab,ac,ar⟩,A4,H⟩:=H;dsimp only at H;replace H:=bs H;obtain⟨ah,A5,H⟩:=H;have bQ:=zaa.mk H;clear H;go_enter Tryz.func18,Tryz.ntmps18;(go_upto_region 3 with(first|((with_reducible refine zae (N:=5) rfl ?_);refine zaf rfl (N:=5) rfl (cs:=#[.bool J,.bool K,.bool ae,.bool M,.bool O,.int .i64 E,.int .i64 I,.int .i32 A]) (t:=26) gz ?_;intro D hg w7 hbox hb;have lo:=gN bz hg;have B:=zaa.mk hbox;replace HB:=bN bz hb;clear hb hbox hg)|((with_reducible refine zac (f:=24) rfl ?_);refine gB Tryz.func24 (zcM.calls a0 a1 bf ab ac ar _ A4.out) ?_;intro w8 hb;replace B:=kN (g:=D) (cs:=#[.bool J,.bool K,.bool ae,.bool M,.bool O,.int .i64 E,.int .i64 I,.int .i32 A]) hb bk;replace HB:=bN bz hb;clear hb;obtain⟨au,av,aw,ax,ay,az,aA,aB,aC,aD,aE,aF,aG,aH,aI,aJ⟩:=cz8 B)|((with_reducible refine zac (f:=25) rfl ?_);refine zbm (some 26) rfl rfl Tryz.func25 (by kernel_rfl) rfl #[.int .i32 A] rfl lz ?_;(with_reducible refine(za4.calls k A ah _ A5.out).mono ?_);rintro e w' ⟨rfl,⟨nd,rfl⟩⟩;refine⟨_,rfl,?_⟩)));(try simp only[Act.put,sA]);go_cut [32] (λlp wc=> ∃(kq:Nat) (aP:Bool),lp= .bool aP/\zaa (zar.j0 kq a0 a1 bf ab ac ar ah aP J K ae M O E I A=some (r1,r2))/\zaa (kq<=k)/\zaa (wc.heap[D]? =some (.cells #[.bool J,.bool K,.bool ae,.bool M,.bool O,.int .i64 E,.int .i64 I,.int .i32 A] 26 (0,0)))/\zaa (Below w.heap.size w wc));case first=>
  have H:=bQ.out;clear bQ;by_cases bg:ar=3
  (·replace H:=hE H bg;obtain⟨a2,a3⟩:=eT bg;clear bg;(try first|rw[a2]|rw[a3]);have H':=zaa.mk H;clear H;go_wp2;go_meet;case rel=>exact⟨_,(true),rz,H',⟨by first|omega|exact Nat.le_refl _⟩,⟨bk⟩,⟨bz⟩⟩);replace H:=hN H bg;obtain⟨a2,a3⟩:=eF bg;(try first|rw[a2]|rw[a3]);have H':=zaa.mk H;clear H;go_wp2;go_meet;case rel=>exact⟨_,((ah==0)),rz,H',⟨by first|omega|exact Nat.le_refl _⟩,⟨bk⟩,⟨bz⟩⟩
 case rest=>
  clear bQ;(try clear au av aw ax ay az aA aB aC aD aE aF aG aH aI aJ);obtain⟨kq,aP,rfl,HA,al,B,HB⟩:=hcut;cases kq with
  |zero=>exact absurd HA.out (by simp[zar.j0])
  |succ ds=>
   have H:=HA.out;clear HA;simp only[zar.j0] at H;by_cases aW:aP=true
   (·subst aW;replace H:=hT H;obtain⟨rfl,rfl⟩:=o2 H;go_wp2;go_ret2;exact⟨ez,bz⟩);replace aW:=Bool.eq_false_iff.mpr aW;subst aW;replace H:=hF H;have bh:=zaa.mk H;clear H;(go_upto_block 0 with(fail));go_cut [13] (λlq wc=> ∃(kq:Nat) (U:ByteArray),lq= .string U/\zaa (zar.j2 kq a0 a1 ab ac ar ah U J K ae M O E I A=some (r1,r2))/\zaa (kq<=ds)/\zaa (wc.heap[D]? =some (.cells #[.bool J,.bool K,.bool ae,.bool M,.bool O,.int .i64 E,.int .i64 I,.int .i32 A] 26 (0,0)))/\zaa (Below w.heap.size w wc));case first=>
    have H:=bh.out;clear bh;have bi:=zaa.mk H;clear H;(go_upto_region 6 with(fail));go_cut [33] (λlr wc=> ∃(kq:Nat) (aN:Bool),lr= .bool aN/\zaa (zar.j1 kq a0 a1 ab ac ar ah (⟨#[]⟩:ByteArray) aN J K ae M O E I A=some (r1,r2))/\zaa (kq<=ds)/\zaa (wc.heap[D]? =some (.cells #[.bool J,.bool K,.bool ae,.bool M,.bool O,.int .i64 E,.int .i64 I,.int .i32 A] 26 (0,0)))/\zaa (Below w.heap.size w wc));case first=>
     have H:=bi.out;clear bi;by_cases br:bf=true
     (·subst br;replace H:=hT H;have H':=zaa.mk H;clear H;go_wp2;go_meet;case rel=>exact⟨_,((ar !=2)),rz,H',⟨by have:=al.out;first|omega|exact Nat.le_refl _⟩,⟨bk⟩,⟨bz⟩⟩);replace br:=Bool.eq_false_iff.mpr br;subst br;replace H:=hF H;have H':=zaa.mk H;clear H;go_wp2;go_meet;case rel=>exact⟨_,(false),rz,H',⟨by have:=al.out;first|omega|exact Nat.le_refl _⟩,⟨bk⟩,⟨bz⟩⟩
    case rest=>
     clear bi;(try clear aW);(try clear au av aw ax ay az aA aB aC aD aE aF aG aH aI aJ);obtain⟨kq,aN,rfl,HA,aX,B,HB⟩:=hcut;cases kq with
     |zero=>exact absurd HA.out (by simp[zar.j1])
     |succ l7=>
      have H:=HA.out;clear HA;simp only[zar.j1] at H;by_cases bu:aN=true
      (·subst bu;replace H:=hT H;have H':=zaa.mk H;clear H;go_wp2;go_meet;case rel=>exact⟨_,((⟨#[45]⟩:ByteArray)),rz,H',⟨by have:=al.out;have:=aX.out;first|omega|exact Nat.le_refl _⟩,⟨bk⟩,⟨bz⟩⟩);replace bu:=Bool.eq_false_iff.mpr bu;subst bu;replace H:=hF H;by_cases bv:J=true
      (·subst bv;replace H:=hT H;have H':=zaa.mk H;clear H;obtain⟨dt,du,dv,dx,dy,dA,dB,dC,dD,dE,dF,dG,dH,dI,dJ,dK⟩:=cz8 B;go_wp2;go_meet;case rel=>exact⟨_,((⟨#[43]⟩:ByteArray)),rz,H',⟨by have:=al.out;have:=aX.out;first|omega|exact Nat.le_refl _⟩,⟨bk⟩,⟨bz⟩⟩);replace bv:=Bool.eq_false_iff.mpr bv;subst bv;replace H:=hF H;by_cases bw:M=true
      (·subst bw;replace H:=hT H;have H':=zaa.mk H;clear H;obtain⟨dL,dM,dN,dO,dP,dQ,dR,dS,dT,dU,dV,dW,dY,dZ,d0,d5⟩:=cz8 B;go_wp2;go_meet;case rel=>exact⟨_,((⟨#[32]⟩:ByteArray)),rz,H',⟨by have:=al.out;have:=aX.out;first|omega|exact Nat.le_refl _⟩,⟨bk⟩,⟨bz⟩⟩);replace bw:=Bool.eq_false_iff.mpr bw;subst bw;replace H:=hF H;by_cases bj:ar=1
      (·replace H:=hE H bj;obtain⟨bR,bS⟩:=eT bj;clear bj;have H':=zaa.mk H;clear H;obtain⟨d6,d9,ea,eb,ec,ed,ee,ef,eg,eh,ei,ej,ek,em,en,eo⟩:=cz8 B;go_wp2;go_meet;case rel=>exact⟨_,((⟨#[43]⟩:ByteArray)),rz,H',⟨by have:=al.out;have:=aX.out;first|omega|exact Nat.le_refl _⟩,⟨bk⟩,⟨bz⟩⟩);replace H:=hN H bj;obtain⟨bR,bS⟩:=eF bj;have H':=zaa.mk H;clear H;obtain⟨ep,eq,er,et,eu,ev,ew,ey,eA,eB,eC,eD,eE,eG,eH,eI⟩:=cz8 B;go_wp2;go_meet;case rel=>exact⟨_,((⟨#[]⟩:ByteArray)),rz,H',⟨by have:=al.out;have:=aX.out;first|omega|exact Nat.le_refl _⟩,⟨bk⟩,⟨bz⟩⟩
   case rest=>
    clear bh;(try clear aW);(try clear au av aw ax ay az aA aB aC aD aE aF aG aH aI aJ);obtain⟨kq,U,rfl,HA,ak,B,HB⟩:=hcut;cases kq with
    |zero=>exact absurd HA.out (by simp[zar.j2])
    |succ aK=>
     have H:=HA.out;clear HA;simp only[zar.j2] at H;have bl:=zaa.mk H;clear H;(go_upto_block 1 with(fail));go_cut [14] (λlu wc=> ∃(kq:Nat) (ag:ByteArray) (ad:Bool),lu= .string ag/\zaa (zar.j3 kq U ag J K ae M ad E I A=some (r1,r2))/\zaa (kq<=aK)/\zaa (wc.heap[D]? =some (.cells #[.bool J,.bool K,.bool ae,.bool M,.bool ad,.int .i64 E,.int .i64 I,.int .i32 A] 26 (0,0)))/\zaa (Below w.heap.size w wc));case first=>
      have H:=bl.out;clear bl;by_cases bm:ar=2
      (·replace H:=hE H bm;obtain⟨a4,a5⟩:=eT bm;clear bm;(try first|rw[a4]|rw[a5]);have H':=zaa.mk H;clear H;obtain⟨eJ,eK,eL,eM,eO,eQ,eR,eS,eU,eV,eW,eX,eY,eZ,e0,e1⟩:=cz8 B;go_wp2;go_meet;case rel=>exact⟨_,((⟨#[78,97,78]⟩:ByteArray)),(false),rz,H',⟨by have:=al.out;have:=ak.out;first|omega|exact Nat.le_refl _⟩,⟨bk⟩,⟨bz⟩⟩);replace H:=hN H bm;obtain⟨a4,a5⟩:=eF bm;(try first|rw[a4]|rw[a5]);by_cases bn:ar=1
      (·replace H:=hE H bn;obtain⟨bU,bV⟩:=eT bn;clear bn;have H':=zaa.mk H;clear H;obtain⟨e2,e3,e4,e5,e6,e7,e8,e9,fa,fb,fc,fe,fg,fh,fi,fj⟩:=cz8 B;go_wp2;go_meet;case rel=>exact⟨_,((⟨#[73,110,102]⟩:ByteArray)),(false),rz,H',⟨by have:=al.out;have:=ak.out;first|omega|exact Nat.le_refl _⟩,⟨bk⟩,⟨bz⟩⟩);replace H:=hN H bn;obtain⟨bU,bV⟩:=eF bn;obtain⟨a9,a6⟩:=ex (mn I 1000);(first|rw[a6] at H|simp only[a6] at H);have k9:(if 1000<I then 1000 else I)=a9:=a6;obtain⟨af,a7⟩:=ex (mx (-1) (a9));(first|rw[a7] at H|simp only[a7] at H);have lb:(if(-1)<(a9) then(a9) else(-1))=af:=a7;by_cases bA:ae=true
      ·subst bA;replace H:=hT H;by_cases fk:ah=1
       (·subst fk;replace H:=hE H rfl;(try simp only[fnW_1]);replace H:=bs H;obtain⟨bB,lw,H⟩:=H;have H':=zaa.mk H;clear H;obtain⟨fl,fm,fo,fp,fq,fs,ft,fu,fv,fw,fx,fy,fz,fA,fC,fD⟩:=cz8 B;go_wp2_with (first|((with_reducible refine zae (N:=15) rfl ?_);refine zaf rfl (N:=15) rfl (cs:=#[.int .u64 0,.int .i64 0,.int .u64 0,.int .i64 0,.int .i64 0,.bool false,.int .i32 0]) (t:=52) gz ?_;intro an hg mc hbox hb;have aQ:=gN bz hg;have aR:=gN bz hg;have X:=lN (g:=D) (cs:=#[.bool J,.bool K,.bool true,.bool M,.bool O,.int .i64 E,.int .i64 I,.int .i32 A]) hg bk;have Y:=rN (g:=D) (cs:=#[.bool J,.bool K,.bool true,.bool M,.bool O,.int .i64 E,.int .i64 I,.int .i32 A]) hg bk;replace B:=kN (g:=D) (cs:=#[.bool J,.bool K,.bool true,.bool M,.bool O,.int .i64 E,.int .i64 I,.int .i32 A]) hb bk;have ai:=zaa.mk hbox;replace HB:=bN bz hb;clear hb hbox hg;have lx:=Y.out;have ly:=X.out;obtain⟨fF,fG,fH,fI,fJ,fK,fL,fN,fO,fP,fQ,fR,fS,fT⟩:=cz7 ai)|(go_at_call 39;(with_reducible refine(zaQ.calls aK a0 a1 ab ac af (A !=118) A bB _ lw.out).mono ?_);rintro e md ⟨rfl,hb⟩;replace B:=kN (g:=D) (cs:=#[.bool J,.bool K,.bool true,.bool M,.bool O,.int .i64 E,.int .i64 I,.int .i32 A]) hb bk;replace ai:=kN (g:=an) (cs:=#[.int .u64 a0,.int .i64 a1,.int .u64 ab,.int .i64 ac,.int .i64 af,.bool (A !=118),.int .i32 A]) hb bk;replace HB:=bN bz hb;(try clear hb);(try clear aS);(try clear hk);(try clear hi)));go_meet;case rel=>exact⟨_,(bB),(O),rz,H',⟨by have:=al.out;have:=ak.out;first|omega|exact Nat.le_refl _⟩,⟨bk⟩,⟨bz⟩⟩);replace H:=hN H fk;by_cases fU:ah=2
       (·subst fU;replace H:=hE H rfl;(try simp only[fnW_2]);replace H:=bs H;obtain⟨bC,lA,H⟩:=H;have H':=zaa.mk H;clear H;obtain⟨fV,fX,fY,fZ,f0,f2,f3,f4,f5,f6,f7,f8,f9,ga,gb,ge⟩:=cz8 B;go_wp2_with (first|((with_reducible refine zae (N:=15) rfl ?_);refine zaf rfl (N:=15) rfl (cs:=#[.int .u64 0,.int .i64 0,.int .u64 0,.int .i64 0,.int .i64 0,.bool false,.int .i32 0]) (t:=52) gz ?_;intro an hg me hbox hb;have aQ:=gN bz hg;have aR:=gN bz hg;have X:=lN (g:=D) (cs:=#[.bool J,.bool K,.bool true,.bool M,.bool O,.int .i64 E,.int .i64 I,.int .i32 A]) hg bk;have Y:=rN (g:=D) (cs:=#[.bool J,.bool K,.bool true,.bool M,.bool O,.int .i64 E,.int .i64 I,.int .i32 A]) hg bk;replace B:=kN (g:=D) (cs:=#[.bool J,.bool K,.bool true,.bool M,.bool O,.int .i64 E,.int .i64 I,.int .i32 A]) hb bk;have ai:=zaa.mk hbox;replace HB:=bN bz hb;clear hb hbox hg;have lB:=Y.out;have lC:=X.out;obtain⟨gf,gg,gh,gi,gj,gk,gl,gm,gn,gp,gq,gr,gs,gt⟩:=cz7 ai)|(go_at_call 40;(with_reducible refine(zaH.calls aK a0 a1 ab ac af (A !=118) A bC _ lA.out).mono ?_);rintro e mf ⟨rfl,hb⟩;replace B:=kN (g:=D) (cs:=#[.bool J,.bool K,.bool true,.bool M,.bool O,.int .i64 E,.int .i64 I,.int .i32 A]) hb bk;replace ai:=kN (g:=an) (cs:=#[.int .u64 a0,.int .i64 a1,.int .u64 ab,.int .i64 ac,.int .i64 af,.bool (A !=118),.int .i32 A]) hb bk;replace HB:=bN bz hb;(try clear hb);(try clear aS);(try clear hk);(try clear hi)));go_meet;case rel=>exact⟨_,(bC),(O),rz,H',⟨by have:=al.out;have:=ak.out;first|omega|exact Nat.le_refl _⟩,⟨bk⟩,⟨bz⟩⟩);replace H:=hN H fU;by_cases gu:ah=3
       (·subst gu;replace H:=hE H rfl;(try simp only[fnW_3]);replace H:=bs H;obtain⟨bD,lD,H⟩:=H;have H':=zaa.mk H;clear H;obtain⟨gv,gw,gx,gy,gA,gC,gD,gE,gF,gH,gI,gJ,gK,gL,gO,gP⟩:=cz8 B;go_wp2_with (first|((with_reducible refine zae (N:=15) rfl ?_);refine zaf rfl (N:=15) rfl (cs:=#[.int .u64 0,.int .i64 0,.int .u64 0,.int .i64 0,.int .i64 0,.bool false,.int .i32 0]) (t:=52) gz ?_;intro an hg mg hbox hb;have aQ:=gN bz hg;have aR:=gN bz hg;have X:=lN (g:=D) (cs:=#[.bool J,.bool K,.bool true,.bool M,.bool O,.int .i64 E,.int .i64 I,.int .i32 A]) hg bk;have Y:=rN (g:=D) (cs:=#[.bool J,.bool K,.bool true,.bool M,.bool O,.int .i64 E,.int .i64 I,.int .i32 A]) hg bk;replace B:=kN (g:=D) (cs:=#[.bool J,.bool K,.bool true,.bool M,.bool O,.int .i64 E,.int .i64 I,.int .i32 A]) hb bk;have ai:=zaa.mk hbox;replace HB:=bN bz hb;clear hb hbox hg;have lE:=Y.out;have lF:=X.out;obtain⟨gQ,gR,gS,gT,gU,gV,gW,gX,gY,gZ,g0,g1,g2,g3⟩:=cz7 ai)|(go_at_call 41;(with_reducible refine(zaw.calls aK a0 a1 ab ac af (A !=118) A bD _ lD.out).mono ?_);rintro e mh ⟨rfl,hb⟩;replace B:=kN (g:=D) (cs:=#[.bool J,.bool K,.bool true,.bool M,.bool O,.int .i64 E,.int .i64 I,.int .i32 A]) hb bk;replace ai:=kN (g:=an) (cs:=#[.int .u64 a0,.int .i64 a1,.int .u64 ab,.int .i64 ac,.int .i64 af,.bool (A !=118),.int .i32 A]) hb bk;replace HB:=bN bz hb;(try clear hb);(try clear aS);(try clear hk);(try clear hi)));go_meet;case rel=>exact⟨_,(bD),(O),rz,H',⟨by have:=al.out;have:=ak.out;first|omega|exact Nat.le_refl _⟩,⟨bk⟩,⟨bz⟩⟩);replace H:=hN H gu;by_cases g4:ah=4
       (·subst g4;replace H:=hE H rfl;(try simp only[fnW_4]);replace H:=bs H;obtain⟨bE,lG,H⟩:=H;have H':=zaa.mk H;clear H;obtain⟨g5,g6,g7,g8,g9,ha,hc,he,hf,hh,hj,hl,hm,hn,ho,hp⟩:=cz8 B;go_wp2_with (first|((with_reducible refine zae (N:=15) rfl ?_);refine zaf rfl (N:=15) rfl (cs:=#[.int .u64 0,.int .i64 0,.int .u64 0,.int .i64 0,.int .i64 0,.bool false,.int .i32 0]) (t:=52) gz ?_;intro an hg mi hbox hb;have aQ:=gN bz hg;have aR:=gN bz hg;have X:=lN (g:=D) (cs:=#[.bool J,.bool K,.bool true,.bool M,.bool O,.int .i64 E,.int .i64 I,.int .i32 A]) hg bk;have Y:=rN (g:=D) (cs:=#[.bool J,.bool K,.bool true,.bool M,.bool O,.int .i64 E,.int .i64 I,.int .i32 A]) hg bk;replace B:=kN (g:=D) (cs:=#[.bool J,.bool K,.bool true,.bool M,.bool O,.int .i64 E,.int .i64 I,.int .i32 A]) hb bk;have ai:=zaa.mk hbox;replace HB:=bN bz hb;clear hb hbox hg;have lH:=Y.out;have lI:=X.out;obtain⟨hq,hr,hs,ht,hu,hv,hw,hx,hy,hz,hA,hB,hC,hD⟩:=cz7 ai)|(go_at_call 42;(with_reducible refine(zbg.calls a0 a1 ab ac af (A !=118) A bE _ lG.out).mono ?_);rintro e mj ⟨rfl,hb⟩;replace B:=kN (g:=D) (cs:=#[.bool J,.bool K,.bool true,.bool M,.bool O,.int .i64 E,.int .i64 I,.int .i32 A]) hb bk;replace ai:=kN (g:=an) (cs:=#[.int .u64 a0,.int .i64 a1,.int .u64 ab,.int .i64 ac,.int .i64 af,.bool (A !=118),.int .i32 A]) hb bk;replace HB:=bN bz hb;(try clear hb);(try clear aS);(try clear hk);(try clear hi)));go_meet;case rel=>exact⟨_,(bE),(O),rz,H',⟨by have:=al.out;have:=ak.out;first|omega|exact Nat.le_refl _⟩,⟨bk⟩,⟨bz⟩⟩);replace H:=hN H g4;by_cases hH:ah=5
       (·subst hH;replace H:=hE H rfl;(try simp only[fnW_5]);replace H:=bs H;obtain⟨bG,lJ,H⟩:=H;have H':=zaa.mk H;clear H;obtain⟨hI,hJ,hK,hL,hM,hO,hP,hQ,hR,hS,hU,hV,hW,hX,hY,hZ⟩:=cz8 B;go_wp2_with (first|((with_reducible refine zae (N:=15) rfl ?_);refine zaf rfl (N:=15) rfl (cs:=#[.int .u64 0,.int .i64 0,.int .u64 0,.int .i64 0,.int .i64 0,.bool false,.int .i32 0]) (t:=52) gz ?_;intro an hg ml hbox hb;have aQ:=gN bz hg;have aR:=gN bz hg;have X:=lN (g:=D) (cs:=#[.bool J,.bool K,.bool true,.bool M,.bool O,.int .i64 E,.int .i64 I,.int .i32 A]) hg bk;have Y:=rN (g:=D) (cs:=#[.bool J,.bool K,.bool true,.bool M,.bool O,.int .i64 E,.int .i64 I,.int .i32 A]) hg bk;replace B:=kN (g:=D) (cs:=#[.bool J,.bool K,.bool true,.bool M,.bool O,.int .i64 E,.int .i64 I,.int .i32 A]) hb bk;have ai:=zaa.mk hbox;replace HB:=bN bz hb;clear hb hbox hg;have lK:=Y.out;have lL:=X.out;obtain⟨h0,h1,h2,h3,h4,h5,h6,h7,h8,h9,ia,ib,ic,id⟩:=cz7 ai)|(go_at_call 43;(with_reducible refine(zaj.calls aK a0 a1 ab ac af (A !=118) A bG _ lJ.out).mono ?_);rintro e mm ⟨rfl,hb⟩;replace B:=kN (g:=D) (cs:=#[.bool J,.bool K,.bool true,.bool M,.bool O,.int .i64 E,.int .i64 I,.int .i32 A]) hb bk;replace ai:=kN (g:=an) (cs:=#[.int .u64 a0,.int .i64 a1,.int .u64 ab,.int .i64 ac,.int .i64 af,.bool (A !=118),.int .i32 A]) hb bk;replace HB:=bN bz hb;(try clear hb);(try clear aS);(try clear hk);(try clear hi)));go_meet;case rel=>exact⟨_,(bG),(O),rz,H',⟨by have:=al.out;have:=ak.out;first|omega|exact Nat.le_refl _⟩,⟨bk⟩,⟨bz⟩⟩);replace H:=hN H hH;exact absurd H (by simp)
      replace bA:=Bool.eq_false_iff.mpr bA;subst bA;replace H:=hF H;by_cases ie:ah=1
      (·subst ie;replace H:=hE H rfl;(try simp only[fnW_1]);replace H:=bs H;obtain⟨bH,lM,H⟩:=H;have H':=zaa.mk H;clear H;obtain⟨ig,ih,ij,ik,il,im,io,ip,iq,ir,it,iu,iv,iw,ix,iy⟩:=cz8 B;go_wp2_with (first|((with_reducible refine zae (N:=15) rfl ?_);refine zaf rfl (N:=15) rfl (cs:=#[.int .u64 0,.int .i64 0,.int .u64 0,.int .i64 0,.int .i64 0,.bool false,.int .i32 0]) (t:=52) gz ?_;intro ao hg mo hbox hb;have aT:=gN bz hg;have aU:=gN bz hg;have Z:=lN (g:=D) (cs:=#[.bool J,.bool K,.bool false,.bool M,.bool O,.int .i64 E,.int .i64 I,.int .i32 A]) hg bk;have aa:=rN (g:=D) (cs:=#[.bool J,.bool K,.bool false,.bool M,.bool O,.int .i64 E,.int .i64 I,.int .i32 A]) hg bk;replace B:=kN (g:=D) (cs:=#[.bool J,.bool K,.bool false,.bool M,.bool O,.int .i64 E,.int .i64 I,.int .i32 A]) hb bk;have aj:=zaa.mk hbox;replace HB:=bN bz hb;clear hb hbox hg;have lO:=aa.out;have lP:=Z.out;obtain⟨iz,iA,iB,iC,iD,iE,iF,iG,iH,iI,iJ,iK,iL,iM⟩:=cz7 aj)|(go_at_call 39;(with_reducible refine(zaQ.calls aK a0 a1 ab ac af false A bH _ lM.out).mono ?_);rintro e mp ⟨rfl,hb⟩;replace B:=kN (g:=D) (cs:=#[.bool J,.bool K,.bool false,.bool M,.bool O,.int .i64 E,.int .i64 I,.int .i32 A]) hb bk;replace aj:=kN (g:=ao) (cs:=#[.int .u64 a0,.int .i64 a1,.int .u64 ab,.int .i64 ac,.int .i64 af,.bool false,.int .i32 A]) hb bk;replace HB:=bN bz hb;(try clear hb);(try clear aS);(try clear hk);(try clear hi)));go_meet;case rel=>exact⟨_,(bH),(O),rz,H',⟨by have:=al.out;have:=ak.out;first|omega|exact Nat.le_refl _⟩,⟨bk⟩,⟨bz⟩⟩);replace H:=hN H ie;by_cases iN:ah=2
      (·subst iN;replace H:=hE H rfl;(try simp only[fnW_2]);replace H:=bs H;obtain⟨bI,lQ,H⟩:=H;have H':=zaa.mk H;clear H;obtain⟨iO,iP,iQ,iR,iS,iT,iU,iV,iW,iX,iY,iZ,i0,i1,i3,i4⟩:=cz8 B;go_wp2_with (first|((with_reducible refine zae (N:=15) rfl ?_);refine zaf rfl (N:=15) rfl (cs:=#[.int .u64 0,.int .i64 0,.int .u64 0,.int .i64 0,.int .i64 0,.bool false,.int .i32 0]) (t:=52) gz ?_;intro ao hg mq hbox hb;have aT:=gN bz hg;have aU:=gN bz hg;have Z:=lN (g:=D) (cs:=#[.bool J,.bool K,.bool false,.bool M,.bool O,.int .i64 E,.int .i64 I,.int .i32 A]) hg bk;have aa:=rN (g:=D) (cs:=#[.bool J,.bool K,.bool false,.bool M,.bool O,.int .i64 E,.int .i64 I,.int .i32 A]) hg bk;replace B:=kN (g:=D) (cs:=#[.bool J,.bool K,.bool false,.bool M,.bool O,.int .i64 E,.int .i64 I,.int .i32 A]) hb bk;have aj:=zaa.mk hbox;replace HB:=bN bz hb;clear hb hbox hg;have lR:=aa.out;have lS:=Z.out;obtain⟨i5,i6,i7,i9,ja,jb,jc,jd,je,jf,jg,jh,ji,jj⟩:=cz7 aj)|(go_at_call 40;(with_reducible refine(zaH.calls aK a0 a1 ab ac af false A bI _ lQ.out).mono ?_);rintro e mr ⟨rfl,hb⟩;replace B:=kN (g:=D) (cs:=#[.bool J,.bool K,.bool false,.bool M,.bool O,.int .i64 E,.int .i64 I,.int .i32 A]) hb bk;replace aj:=kN (g:=ao) (cs:=#[.int .u64 a0,.int .i64 a1,.int .u64 ab,.int .i64 ac,.int .i64 af,.bool false,.int .i32 A]) hb bk;replace HB:=bN bz hb;(try clear hb);(try clear aS);(try clear hk);(try clear hi)));go_meet;case rel=>exact⟨_,(bI),(O),rz,H',⟨by have:=al.out;have:=ak.out;first|omega|exact Nat.le_refl _⟩,⟨bk⟩,⟨bz⟩⟩);replace H:=hN H iN;by_cases jk:ah=3
      (·subst jk;replace H:=hE H rfl;(try simp only[fnW_3]);replace H:=bs H;obtain⟨bJ,lT,H⟩:=H;have H':=zaa.mk H;clear H;obtain⟨jl,jm,jn,jo,jp,jq,jr,js,jt,ju,jv,jw,jy,jz,jA,jB⟩:=cz8 B;go_wp2_with (first|((with_reducible refine zae (N:=15) rfl ?_);refine zaf rfl (N:=15) rfl (cs:=#[.int .u64 0,.int .i64 0,.int .u64 0,.int .i64 0,.int .i64 0,.bool false,.int .i32 0]) (t:=52) gz ?_;intro ao hg ms hbox hb;have aT:=gN bz hg;have aU:=gN bz hg;have Z:=lN (g:=D) (cs:=#[.bool J,.bool K,.bool false,.bool M,.bool O,.int .i64 E,.int .i64 I,.int .i32 A]) hg bk;have aa:=rN (g:=D) (cs:=#[.bool J,.bool K,.bool false,.bool M,.bool O,.int .i64 E,.int .i64 I,.int .i32 A]) hg bk;replace B:=kN (g:=D) (cs:=#[.bool J,.bool K,.bool false,.bool M,.bool O,.int .i64 E,.int .i64 I,.int .i32 A]) hb bk;have aj:=zaa.mk hbox;replace HB:=bN bz hb;clear hb hbox hg;have lU:=aa.out;have lV:=Z.out;obtain⟨jC,jD,jE,jF,jG,jH,jI,jJ,jK,jL,jM,jN,jO,jP⟩:=cz7 aj)|(go_at_call 41;(with_reducible refine(zaw.calls aK a0 a1 ab ac af false A bJ _ lT.out).mono ?_);rintro e mt ⟨rfl,hb⟩;replace B:=kN (g:=D) (cs:=#[.bool J,.bool K,.bool false,.bool M,.bool O,.int .i64 E,.int .i64 I,.int .i32 A]) hb bk;replace aj:=kN (g:=ao) (cs:=#[.int .u64 a0,.int .i64 a1,.int .u64 ab,.int .i64 ac,.int .i64 af,.bool false,.int .i32 A]) hb bk;replace HB:=bN bz hb;(try clear hb);(try clear aS);(try clear hk);(try clear hi)));go_meet;case rel=>exact⟨_,(bJ),(O),rz,H',⟨by have:=al.out;have:=ak.out;first|omega|exact Nat.le_refl _⟩,⟨bk⟩,⟨bz⟩⟩);replace H:=hN H jk;by_cases jQ:ah=4
      (·subst jQ;replace H:=hE H rfl;(try simp only[fnW_4]);replace H:=bs H;obtain⟨bK,lW,H⟩:=H;have H':=zaa.mk H;clear H;obtain⟨jR,jS,jT,jU,jV,jW,jX,jY,jZ,j5,j6,j7,j8,j9,ka,kb⟩:=cz8 B;go_wp2_with (first|((with_reducible refine zae (N:=15) rfl ?_);refine zaf rfl (N:=15) rfl (cs:=#[.int .u64 0,.int .i64 0,.int .u64 0,.int .i64 0,.int .i64 0,.bool false,.int .i32 0]) (t:=52) gz ?_;intro ao hg mu hbox hb;have aT:=gN bz hg;have aU:=gN bz hg;have Z:=lN (g:=D) (cs:=#[.bool J,.bool K,.bool false,.bool M,.bool O,.int .i64 E,.int .i64 I,.int .i32 A]) hg bk;have aa:=rN (g:=D) (cs:=#[.bool J,.bool K,.bool false,.bool M,.bool O,.int .i64 E,.int .i64 I,.int .i32 A]) hg bk;replace B:=kN (g:=D) (cs:=#[.bool J,.bool K,.bool false,.bool M,.bool O,.int .i64 E,.int .i64 I,.int .i32 A]) hb bk;have aj:=zaa.mk hbox;replace HB:=bN bz hb;clear hb hbox hg;have lX:=aa.out;have lY:=Z.out;obtain⟨kf,kg,kh,ki,kj,kk,kl,km,kn,ko,kp,kt,ku,kw⟩:=cz7 aj)|(go_at_call 42;(with_reducible refine(zbg.calls a0 a1 ab ac af false A bK _ lW.out).mono ?_);rintro e mw ⟨rfl,hb⟩;replace B:=kN (g:=D) (cs:=#[.bool J,.bool K,.bool false,.bool M,.bool O,.int .i64 E,.int .i64 I,.int .i32 A]) hb bk;replace aj:=kN (g:=ao) (cs:=#[.int .u64 a0,.int .i64 a1,.int .u64 ab,.int .i64 ac,.int .i64 af,.bool false,.int .i32 A]) hb bk;replace HB:=bN bz hb;(try clear hb);(try clear aS);(try clear hk);(try clear hi)));go_meet;case rel=>exact⟨_,(bK),(O),rz,H',⟨by have:=al.out;have:=ak.out;first|omega|exact Nat.le_refl _⟩,⟨bk⟩,⟨bz⟩⟩);replace H:=hN H jQ;by_cases kx:ah=5
      (·subst kx;replace H:=hE H rfl;(try simp only[fnW_5]);replace H:=bs H;obtain⟨bL,lZ,H⟩:=H;have H':=zaa.mk H;clear H;obtain⟨ky,kz,kA,kB,kC,kD,kE,kF,kG,kH,kI,kJ,kK,kL,kM,kO⟩:=cz8 B;go_wp2_with (first|((with_reducible refine zae (N:=15) rfl ?_);refine zaf rfl (N:=15) rfl (cs:=#[.int .u64 0,.int .i64 0,.int .u64 0,.int .i64 0,.int .i64 0,.bool false,.int .i32 0]) (t:=52) gz ?_;intro ao hg my hbox hb;have aT:=gN bz hg;have aU:=gN bz hg;have Z:=lN (g:=D) (cs:=#[.bool J,.bool K,.bool false,.bool M,.bool O,.int .i64 E,.int .i64 I,.int .i32 A]) hg bk;have aa:=rN (g:=D) (cs:=#[.bool J,.bool K,.bool false,.bool M,.bool O,.int .i64 E,.int .i64 I,.int .i32 A]) hg bk;replace B:=kN (g:=D) (cs:=#[.bool J,.bool K,.bool false,.bool M,.bool O,.int .i64 E,.int .i64 I,.int .i32 A]) hb bk;have aj:=zaa.mk hbox;replace HB:=bN bz hb;clear hb hbox hg;have l0:=aa.out;have l1:=Z.out;obtain⟨kP,kQ,kR,kS,kT,kU,kV,kW,kX,kY,kZ,k0,k2,k3⟩:=cz7 aj)|(go_at_call 43;(with_reducible refine(zaj.calls aK a0 a1 ab ac af false A bL _ lZ.out).mono ?_);rintro e l8 ⟨rfl,hb⟩;replace B:=kN (g:=D) (cs:=#[.bool J,.bool K,.bool false,.bool M,.bool O,.int .i64 E,.int .i64 I,.int .i32 A]) hb bk;replace aj:=kN (g:=ao) (cs:=#[.int .u64 a0,.int .i64 a1,.int .u64 ab,.int .i64 ac,.int .i64 af,.bool false,.int .i32 A]) hb bk;replace HB:=bN bz hb;(try clear hb);(try clear aS);(try clear hk);(try clear hi)));go_meet;case rel=>exact⟨_,(bL),(O),rz,H',⟨by have:=al.out;have:=ak.out;first|omega|exact Nat.le_refl _⟩,⟨bk⟩,⟨bz⟩⟩);replace H:=hN H kx;exact absurd H (by simp)
     case rest=>
      clear bl;(try clear aW);(try clear au av aw ax ay az aA aB aC aD aE aF aG aH aI aJ);obtain⟨kq,ag,ad,rfl,HA,bM,B,HB⟩:=hcut;cases kq with
      |zero=>exact absurd HA.out (by simp[zar.j3])
      |succ k4=>
       have H:=HA.out;clear HA;simp only[zar.j3] at H;have a8:=zaa.mk H;clear H;(go_upto_region 22 with(fail));go_cut [82] (λl2 wc=> ∃(kq:Nat) (aL:Bool),l2= .bool aL/\zaa (zar.j4 kq U ag aL J K ae M ad E I A=some (r1,r2))/\zaa (kq<=k4)/\zaa (wc.heap[D]? =some (.cells #[.bool J,.bool K,.bool ae,.bool M,.bool ad,.int .i64 E,.int .i64 I,.int .i32 A] 26 (0,0)))/\zaa (Below w.heap.size w wc));case first=>
        have H:=a8.out;clear a8;by_cases ba:ad=true
        (·subst ba;replace H:=hT H;have H':=zaa.mk H;clear H;obtain⟨bW,bX,bY,bZ,b0,b1,b2,b3,b4,b5,b6,b7,b8,ca,cb,cc⟩:=cz8 B;go_wp2;go_meet;case rel=>exact⟨_,(!K),rz,H',⟨by have:=al.out;have:=ak.out;have:=bM.out;first|omega|exact Nat.le_refl _⟩,⟨bk⟩,⟨bz⟩⟩);replace ba:=Bool.eq_false_iff.mpr ba;subst ba;replace H:=hF H;have H':=zaa.mk H;clear H;obtain⟨cd,ce,cf,cg,ci,cj,ck,cm,cn,co,cp,cq,cr,ct,cu,cv⟩:=cz8 B;go_wp2;go_meet;case rel=>exact⟨_,(false),rz,H',⟨by have:=al.out;have:=ak.out;have:=bM.out;first|omega|exact Nat.le_refl _⟩,⟨bk⟩,⟨bz⟩⟩
       case rest=>
        clear a8;(try clear aW);(try clear au av aw ax ay az aA aB aC aD aE aF aG aH aI aJ);obtain⟨kq,aL,rfl,HA,l3,B,HB⟩:=hcut;cases kq with
        |zero=>exact absurd HA.out (by simp[zar.j4])
        |succ l4=>
         have H:=HA.out;clear HA;simp only[zar.j4] at H;by_cases bb:aL=true;case neg=>
          replace bb:=Bool.eq_false_iff.mpr bb;subst bb;replace H:=hF H;by_cases aZ:U.size+ag.size<=9223372036854775807
          (·replace H:=hE H aZ;have lk:=eq_true aZ;have lm:=decide_eq_true aZ;have ln:=eq_false (Nat.not_lt.2 aZ);replace H:=bs H;obtain⟨k7,k8,H⟩:=H;obtain⟨rfl,rfl⟩:=o2 H;obtain⟨c9,da,db,dc,dd,de,df,dh,di,dj,dk,dl,dm,dn,dp,dq⟩:=cz8 B;go_wp2_with (first|((with_reducible refine zac (f:=27) rfl ?_);refine gB Tryz.func27 (zci.calls (U++ag) J K ae M false E I A k7 _ k8.out) ?_;intro mb hb;replace B:=kN (g:=D) (cs:=#[.bool J,.bool K,.bool ae,.bool M,.bool false,.int .i64 E,.int .i64 I,.int .i32 A]) hb bk;replace HB:=bN bz hb;clear hb));go_ret2;exact⟨ez,bz⟩);replace H:=hN H aZ;exact absurd H (by simp)
         subst bb;replace H:=hT H;obtain⟨aV,aO⟩:=ex (mn E 1000);(first|rw[aO] at H|simp only[aO] at H);have bo:(if 1000<E then 1000 else E)=aV:=aO;obtain⟨ap,aM⟩:=ex (mx 0 (aV));(first|rw[aM] at H|simp only[aM] at H);have aY:(if 0<(aV) then(aV) else 0)=ap:=aM;replace H:=bs H;obtain⟨bd,be,H⟩:=H;obtain⟨bp,H⟩:=hG H;have lc:=eq_true bp;have lf:=decide_eq_true bp;have lg:=eq_false (Nat.not_lt.2 bp);obtain⟨bq,H⟩:=hG H;have lh:=eq_true bq;have li:=decide_eq_true bq;have lj:=eq_false (Nat.not_lt.2 bq);replace H:=bs H;obtain⟨k5,k6,H⟩:=H;obtain⟨rfl,rfl⟩:=o2 H;obtain⟨cw,cx,cy,cz,cA,cB,cC,cD,cF,cG,cH,cI,cJ,cK,cL,cM⟩:=cz8 B;(have hbl_:0<=ap:=by rw[<-aY];split<;>omega);(have hbh_:ap<=1000:=by rw[<-aY,<-bo];repeat' split<;>omega);(have hs_:U.size+(bd.size+ag.size)<=9223372036854775807:=by have h_:U.size+(bd++ag).size<=9223372036854775807:=of_decide_eq_true (by assumption);rw[ByteArray.size_append] at h_;exact h_);(have bO:wrap64 (ap-(U.size:Int))=ap-(U.size:Int):=by unfold wrap64;omega);(have bP:wrap64 (ap-(U.size:Int)-(ag.size:Int))=ap-(U.size:Int)-(ag.size:Int):=by unfold wrap64;omega);have A_:=be.out;clear be;rw[bO,bP] at A_;clear bO bP;have be:=zaa.mk A_;clear A_;go_wp2_with (first|((with_reducible refine zac (f:=26) rfl ?_);refine gB Tryz.func26 (zcf.calls 48 (ap-(U.size:Int)-(ag.size:Int)) bd _ be.out) ?_ (hargs:=by(try simp only[List.map_toArray,List.map_cons,List.map_nil]);first|done|(simp only[aM];rfl)|rfl|(simp only[List.length_drop,List.length_take];rfl));intro l9 hb;replace B:=kN (g:=D) (cs:=#[.bool J,.bool K,.bool ae,.bool M,.bool ad,.int .i64 E,.int .i64 I,.int .i32 A]) hb bk;replace HB:=bN bz hb;clear hb;obtain⟨cN,cO,cP,cQ,cR,cS,cT,cV,cW,cX,cY,cZ,c5,c6,c7,c8⟩:=cz8 B)|((with_reducible refine zac (f:=27) rfl ?_);refine gB Tryz.func27 (zci.calls (U++(bd++ag)) J K ae M false E I A k5 _ k6.out) ?_;intro ma hb;replace B:=kN (g:=D) (cs:=#[.bool J,.bool K,.bool ae,.bool M,.bool false,.int .i64 E,.int .i64 I,.int .i32 A]) hb bk;replace HB:=bN bz hb;clear hb));go_ret2;exact⟨by first|exact ez|(simp only[<-aO,<-aM];exact ez),bz⟩
end
end Go.Proofs.YtilidabdbhaljaaGreatDoor.Fn
end
section
namespace Go.Proofs.YtilidabdbhaljaaGreatDoor.Pure
open Go.RowKit Go.Proofs.YtilidabdbhaljaaGreatDoorW.PrintWords Go.Proofs.YtilidabdbhaljaaGreatDoorW.PrintLast Go.Proofs.YtilidabdbhaljaaGreatDoorW.PrintMore Go.Proofs.YtilidabdbhaljaaGreatDoor.Fn
def codeV(v:Int):Int:=if v=101\/v=69 then 1 else if v=102\/v=70 then 2 else if v=103\/v=71\/v=118 then 3 else if v=98 then 4 else if v=120\/v=88 then 5 else 0
theorem zkf(v:Int)(k:Nat):za4.f (k+3) v=some (codeV v):=by
 unfold codeV za4.f;simp only[za4.j0,za4.j1,za4.j2];by_cases d1:v=101
 (·subst d1;rfl);by_cases d2:v=69
 (·subst d2;rfl);by_cases d3:v=102
 (·subst d3;rfl);by_cases d4:v=70
 (·subst d4;rfl);by_cases d5:v=103
 (·subst d5;rfl);by_cases d6:v=71
 (·subst d6;rfl);by_cases d7:v=118
 (·subst d7;rfl);by_cases d8:v=98
 (·subst d8;rfl);by_cases d9:v=120
 (·subst d9;rfl);by_cases A:v=88
 (·subst A;rfl);simp[d1,d2,d3,d4,d5,d6,d7,d8,d9,A]
theorem zkg(v:Int):Ev (λk=>za4.f k v) (codeV v):=
 ⟨3,λk hk=>by obtain⟨j,rfl⟩: ∃j,k=j+3:=⟨k-3,by omega⟩;exact zkf v j⟩
theorem zlq(v:Int):0<=codeV v/\codeV v<=5:=by
 unfold codeV;(repeat' split);all_goals decide
def signL(neg:Bool)(kind:Int)(plus space:Bool):List UInt8:=if neg=true/\kind≠2 then [45] else if plus then [43] else if space then [32] else if kind=1 then [43] else []
theorem zdz(neg:Bool)(kind:Int)(plus space:Bool):(signL neg kind plus space).length<=1/\Asc (signL neg kind plus space):=by
 unfold signL;(repeat' split);all_goals exact⟨by decide,by decide⟩
def clamp(prec:Int):Int:=max (-1) (min prec 1000)
theorem zdA(prec:Int): -1<=clamp prec/\clamp prec<=1000:=by unfold clamp;omega
def restL(wide:Bool)(p m:Nat)(e prec v:Int)(sharp:Bool):List UInt8:=
  if codeV v=1 then scaledL (sharp&&v !=118) (bigV v) (exD m e) (six prec)
  else if codeV v=2 then fixedL (sharp&&v !=118) (exD m e) (six prec)
  else if codeV v=3 then genOf wide p m e prec (sharp&&v !=118) (bigV v)
  else if codeV v=4 then binL m e
  else hexL m e prec (sharp&&v !=118) (v==88)
def Fit(l:List UInt8):Prop:=Asc l/\l.length<=100000
theorem ziy{l:List UInt8}(h:Asc l)(hl:l.length<=50000)(dot big:Bool)(e:Int):Fit (sciL dot big l e):=by
 refine⟨zk9 h dot big e,?_⟩;have h1:=zc0 dot (l.take 1) (l.drop 1);have h2:=zcV (eMark big) (e:=e) (least:=2) (by decide);(have hm:(eMark big).length=1:=by cases big<;>rfl);rw[List.length_take,List.length_drop] at h1;unfold sciL;rw[List.length_append];omega
theorem zf9{l:List UInt8}(h:Asc l)(hl:l.length<=20000)(dot:Bool){p:Int}(hp: -20000<=p/\p<=20000):Fit (aroundL dot l p):=by
 refine⟨zh0 h dot p,?_⟩;have hf:=zb7 l p;unfold aroundL;split
 ·have h1:=zc0 dot [48] (zsL (-p).toNat++l);rw[List.length_append,zbE] at h1;simp at h1;omega
 ·have h1:=zc0 dot ((fillL l p).take p.toNat) ((fillL l p).drop p.toNat);rw[List.length_take,List.length_drop] at h1;omega
theorem zi3{v:List UInt8×Int}(h:Near v)(dot big:Bool){p:Int}(hp:0<=p/\p<=1000):Fit (scaledL dot big v p):=by
 have hb:=zcm h (p+1);have hf:=zb7 (roundN v.1 v.2 (p+1)).1 (p+1);exact ziy (zcS (zds h.form (p+1)).1.asc _) (by omega) dot big _
theorem zkh{v:List UInt8×Int}(h:Near v)(dot:Bool){p:Int}(hp:0<=p/\p<=1000):Fit (fixedL dot v p):=by
 have hb:=zcm h (v.2+p);have ha:=(zds h.form (v.2+p)).1.asc;unfold fixedL;generalize roundN v.1 v.2 (v.2+p)=d at*
 split
 ·refine⟨zdw (by decide) (zdv _) dot,?_⟩;have h1:=zc0 dot [48] (zsL p.toNat);rw[zbE] at h1;simp at h1;omega
 ·split
  ·refine⟨zdw (by decide) (zcS ((zdv _).app ha) _) dot,?_⟩;have h1:=zc0 dot [48] (fillL (zsL (-d.2).toNat++d.1) p);have hf:=zb7 (zsL (-d.2).toNat++d.1) p;rw[List.length_append,zbE] at hf;simp at h1;omega
  ·have hf:=zb7 d.1 (d.2+p);exact zf9 (zcS ha _) (by omega) dot (by omega)
theorem ziz{d:List UInt8×Int}(ha:Asc d.1)(hd:d.1.length<=2000/\ -4000<=d.2/\d.2<=1500)(dot big:Bool){keep top:Int}(hk:1<=keep/\keep<=1000):Fit (genL dot big d keep top):=by
 have hfb:=zcQ (d:=d) hd.2;unfold genL;dsimp only;have hl:Asc (if d.1=[] then [48] else d.1)/\(if d.1=[] then([48]:List UInt8) else d.1).length<=2000:=by
  split
  ·exact⟨by decide,by decide⟩
  ·exact⟨ha,hd.1⟩
 generalize (if d.1=[] then([48]:List UInt8) else d.1)=l at*
 have hm:Asc (if dot=true then fillL l keep else l)/\(if dot=true then fillL l keep else l).length<=3000:=by
  have hf:=zb7 l keep;split
  ·exact⟨zcS hl.1 _,by omega⟩
  ·exact⟨hl.1,by omega⟩
 split
 ·exact ziy hm.1 (by omega) dot big _
 ·exact zf9 hm.1 (by omega) dot (by omega)
theorem zfc(wide:Bool){p:Nat}(hp:p<ii wide):InForm (shortL wide p).1 (shortL wide p).2/\(shortL wide p).1.length<=2000/\ -4000<=(shortL wide p).2/\(shortL wide p).2<=1500:=by
 unfold shortL;by_cases c:p=0
 ·rw[if_pos c];exact⟨⟨AllD.nil,λc t e=>(by cases e),rfl,λ_=>rfl⟩,by decide,by decide,by decide⟩
 ·rw[if_neg c];obtain⟨M,h1,h2,h3⟩:=zi2 wide p;have hv:=zfq wide hp;have hl:=hv.len;have hlo:=hv.lo;have hhi:=hv.hi;rcases zke h2 with⟨_,e⟩|⟨hn,u,hu,e,_⟩
  ·rw[e];exact⟨hv.form,by omega,by omega,by omega⟩
  ·have hc:=zi0 hv M hn;have A:u<10^(M+1):=by
    rw[Nat.pow_succ];have:1<=10^M:=Nat.pow_pos (by decide);rcases hu with hu|hu<;>omega
   have hb:=zcl A (cE (exV wide p) M);rw[e];unfold cE at hb ⊢;exact⟨zbx _ _,by omega,by omega,by omega⟩
theorem zki(wide:Bool){p:Nat}(hp:p<ii wide){m:Nat}(hm:m<18446744073709551616){e:Int}(h: -1200<=e/\e<=1200){prec:Int}(hq: -1<=prec/\prec<=1000)(dot big:Bool):Fit (genOf wide p m e prec dot big):=by
 unfold genOf;split
 ·have:=zfc wide hp;exact ziz this.1.1.asc this.2 dot big (by decide)
 ·have hn:=zdg hm h;have hb:=zcm hn (max prec 1);exact ziz (zds hn.form _).1.asc (by omega) dot big (by omega)
theorem zmA(m:Nat)(e:Int):Fit (binL m e):=by
 refine⟨(zhs (by decide) m).app (zeL (by decide) e 1),?_⟩;have h1:=zd5 10 m;have h2:=zcV ([112]:List UInt8) (e:=e) (least:=1) (by decide);unfold binL;rw[List.length_append];simp at h2;omega
set_option maxRecDepth 100000 in
theorem zkj(b:UInt8)(h:b.toNat<128):(Lib.upperB b).toNat<128:=by
 (have key: ∀n:Fin 256,n.val<128->(Lib.upperB (UInt8.ofNat n.val)).toNat<128:=by decide);have:=key ⟨b.toNat,b.toNat_lt⟩ h;rwa [UInt8.ofNat_toNat] at this
theorem zeO{lead ds:List UInt8}(hl:lead.length<=10/\Asc lead)(hd:ds.length<=2000/\Asc ds)(dot up:Bool)(x:Int):Fit (hexEnd dot up lead ds x):=by
 have h1:=zc0 dot lead ds;have h2:=zcV ([112]:List UInt8) (e:=x) (least:=2) (by decide);have ha:Asc ([48,120]++(ptL dot lead ds++powL [112] x 2)):=Asc.app (by decide) ((zdw hl.2 hd.2 dot).app (zeL (by decide) x 2));(have hlen:([48,120]++(ptL dot lead ds++powL [112] x 2)).length<=100000:=by simp at h2 ⊢;omega);unfold hexEnd;split
 ·refine⟨λc hc=>?_,by unfold Lib.toUpperA;rw[List.length_map];exact hlen⟩;unfold Lib.toUpperA at hc;obtain⟨b,hb,rfl⟩:=List.mem_map.1 hc;exact zkj b (ha b hb)
 ·exact⟨ha,hlen⟩
theorem zfv(dot up:Bool){lead:List UInt8}(hl:lead.length<=10/\Asc lead){part:Nat}(hp:part<=18446744073709551615)(x:Int){prec:Int}(hq: -1<=prec/\prec<=1000):Fit (hexTail dot up lead part x prec):=by
 have hs:=zfO hp;unfold hexTail;split
 ·exact zeO hl ⟨by have:=zkc (sixL part);omega,zkb (zd1 _)⟩ dot up x
 ·split
  ·have hf:=zb7 (sixL part) prec;exact zeO hl ⟨by omega,zcS (zd1 _) _⟩ dot up x
  ·unfold hexMid;dsimp only;refine zeO hl ?_ dot up _;split
   ·exact⟨by decide,Asc.nil⟩
   ·refine⟨?_,(zd1 _).take _⟩;rw[List.length_take];omega
theorem ziA(m:Nat)(e:Int){prec:Int}(hq: -1<=prec/\prec<=1000)(dot up:Bool):Fit (hexL m e prec dot up):=by
 unfold hexL;split
 ·exact zfv dot up ⟨by decide,by decide⟩ (by decide) _ hq
 ·exact zfv dot up ⟨by decide,by decide⟩ (by omega) _ hq
theorem zhL{prec:Int}(hq: -1<=prec/\prec<=1000):0<=six prec/\six prec<=1000:=by unfold six;split<;>omega
theorem zfQ(wide:Bool){p:Nat}(hp:p<ii wide){m:Nat}(hm:m<18446744073709551616){e:Int}(h: -1200<=e/\e<=1200){prec:Int}(hq: -1<=prec/\prec<=1000)(v:Int)(sharp:Bool):Fit (restL wide p m e prec v sharp):=by
 have hn:=zdg hm h;unfold restL;repeat' split
 ·exact zi3 hn _ _ (zhL hq)
 ·exact zkh hn _ (zhL hq)
 ·exact zki wide hp hm h hq _ _
 ·exact zmA m e
 ·exact ziA m e hq _ _
def endL(sign rest:List UInt8)(minus zero:Bool)(wid:Int):List UInt8:=
  padL (sign++(if zero&& !minus then List.replicate (max 0 (min wid 1000)-sign.length-rest.length).toNat 48++rest else rest)) minus false wid
theorem zhM{sign rest:List UInt8}(hs:sign.length<=1/\Asc sign)(hr:Fit rest)(plus minus sharp space zero:Bool)(wid prec v:Int):
 Ev (λk=>zar.j3 k (S sign) (S rest) plus minus sharp space zero wid prec v) (S (endL sign rest minus zero wid),true):=by
 have ha:=hr.1;have hl:=hr.2;have key: ∀u:Bool,Ev (λk=>zar.j4 k (S sign) (S rest) u plus minus sharp space zero wid prec v) (S (padL (sign++(if u then List.replicate (max 0 (min wid 1000)-sign.length-rest.length).toNat 48++rest else rest)) minus false wid),true):=by
  intro u;refine Ev.step (λk=>by simp only[zar.j4];rfl) ?_;cases u with
  |true=>
   refine eP rfl ?_;rw[if_pos rfl,zas,zas,zei,zg9,w64 (x:=max 0 (min wid 1000)-(sign.length:Int)) (by omega) (by omega),w64 (by omega) (by omega)];have hf:=zio 48 (max 0 (min wid 1000)-(sign.length:Int)-(rest.length:Int));rw[show(((48:UInt8).toNat:Nat):Int)=48 from rfl,show(min (max 0 (min wid 1000)-(sign.length:Int)-(rest.length:Int)) 1000).toNat=(max 0 (min wid 1000)-(sign.length:Int)-(rest.length:Int)).toNat by omega] at hf;rw[hf];simp only[Option.bind_some];generalize hz:(max 0 (min wid 1000)-(sign.length:Int)-(rest.length:Int)).toNat=n;(have hn:n<=1000:=by omega);refine eP (by rw[zas,List.length_replicate];omega) ?_;rw[zbr];refine eP (by rw[zas,List.length_append,List.length_replicate];omega) ?_;rw[zbr,zjY (hs.2.app ((Asc.rep n (by decide)).app ha)) (by rw[List.length_append,List.length_append,List.length_replicate];omega)];exact Ev.now _
  |false=>
   refine eN (by simp) ?_;show Ev _ (S (padL (sign++rest) minus false wid),true);refine eP (by rw[zas,zas];omega) ?_;rw[zbr,zjY (hs.2.app ha) (by rw[List.length_append];omega)];exact Ev.now _
 refine Ev.step (λk=>by simp only[zar.j3];rfl) ?_;unfold endL;cases zero with
 |true=>exact eP rfl (key (!minus))
 |false=>exact eN (by simp) (key false)
def floatS(wide:Bool)(a:Nat)(plus minus sharp space zero:Bool)(wid prec v:Int):ByteArray×Bool:=
  if codeV v=0 then(⟨#[]⟩,false)
  else if bareN wide a<ii wide then(S (endL (signL (a / tt wide%2==1) 0 plus space) (restL wide (bareN wide a) (fM (ff wide) (bareN wide a)) ((fE (ff wide) (bareN wide a):Int)-(ll wide:Int)) (clamp prec) v sharp) minus zero wid),true)
  else if bareN wide a=ii wide then(S (endL (signL (a / tt wide%2==1) 1 plus space) [73,110,102] minus false wid),true)
  else(S (endL (signL (a / tt wide%2==1) 2 plus space) [78,97,78] minus false wid),true)
theorem ziB{R:ByteArray×Bool}(x0 x1 x9 B A D:Int)(neg plus minus sharp space zero:Bool)(wid prec v:Int)
 (h:Ev (λk=>zar.j2 k x0 x1 x9 B A D (S (signL neg A plus space)) plus minus sharp space zero wid prec v) R) (u:Bool) (hu:u=decide (neg=true/\A≠2)):
 Ev (λk=>zar.j1 k x0 x1 x9 B A D (⟨#[]⟩:ByteArray) u plus minus sharp space zero wid prec v) R:=by
 unfold signL at h;refine Ev.step (λk=>by simp only[zar.j1];rfl) ?_;by_cases c:neg=true/\A≠2
 ·(have:u=true:=by rw[hu];exact decide_eq_true c);subst this;rw[if_pos c] at h;exact eP rfl h
 ·(have:u=false:=by rw[hu];exact decide_eq_false c);subst this;rw[if_neg c] at h;refine eN (by simp) ?_;cases plus with
  |true=>exact eP rfl h
  |false=>
   refine eN (by simp) ?_;cases space with
   |true=>exact eP rfl h
   |false=>
    refine eN (by simp) ?_;by_cases c1:A=1
    ·rw[if_neg (by simp),if_neg (by simp),if_pos c1] at h;exact eP c1 h
    ·rw[if_neg (by simp),if_neg (by simp),if_neg c1] at h;exact eN c1 h
theorem zkk(prec:Int):mx (-1) (mn prec 1000)=clamp prec:=by rw[zei,zg9];rfl
theorem zmB(wide:Bool){a p:Nat}(ha:a<18446744073709551616)(hb:bareN wide a=p)(hp:p<ii wide){m:Nat}(hm:m<18446744073709551616){e:Int}(h: -1200<=e/\e<=1200){sign:List UInt8}(hs:sign.length<=1/\Asc sign)(plus minus sharp space zero:Bool)(wid prec v:Int)(hc:codeV v≠0):
 Ev (λk=>zar.j2 k (a:Int) (szB wide) (m:Int) e 0 (codeV v) (S sign) plus minus sharp space zero wid prec v) (S (endL sign (restL wide p m e (clamp prec) v sharp) minus zero wid),true):=by
 have hq:=zdA prec;have hfit:=zfQ wide hp hm h hq v sharp;have hend:=zhM hs hfit plus minus sharp space zero wid prec v;have hsl:=(zfc wide hp).2;have hcl:=zlq v;refine Ev.step (λk=>by simp only[zar.j2];rfl) ?_;refine eN (by decide) ?_;refine eN (by decide) ?_;rw[zkk]
 have way: ∀dot:Bool,dot=(sharp&&v !=118)->Ev (λk=>if codeV v=1 then((zaQ.f k (a:Int) (szB wide) (m:Int) e (clamp prec) dot v).bind λA=>(zar.j3 k (S sign) A plus minus sharp space zero wid prec v)) else(if codeV v=2 then((zaH.f k (a:Int) (szB wide) (m:Int) e (clamp prec) dot v).bind λB=>(zar.j3 k (S sign) B plus minus sharp space zero wid prec v)) else(if codeV v=3 then((zaw.f k (a:Int) (szB wide) (m:Int) e (clamp prec) dot v).bind λD=>(zar.j3 k (S sign) D plus minus sharp space zero wid prec v)) else(if codeV v=4 then((zbg.f (a:Int) (szB wide) (m:Int) e (clamp prec) dot v).bind λE=>(zar.j3 k (S sign) E plus minus sharp space zero wid prec v)) else(if codeV v=5 then((zaj.f k (a:Int) (szB wide) (m:Int) e (clamp prec) dot v).bind λI=>(zar.j3 k (S sign) I plus minus sharp space zero wid prec v)) else none)))))
  (S (endL sign (restL wide p m e (clamp prec) v sharp) minus zero wid),true):=by
  intro dot hd
  unfold restL at hend ⊢
  rw[<-hd] at hend ⊢
  by_cases c1:codeV v=1
  ·rw[if_pos c1] at hend ⊢
   exact eP c1 (Ev.bind (zka _ _ hm h hq v dot) hend)
  ·rw[if_neg c1] at hend ⊢
   refine eN c1 ?_
   by_cases c2:codeV v=2
   ·rw[if_pos c2] at hend ⊢
    exact eP c2 (Ev.bind (zll _ _ hm h hq v dot) hend)
   ·rw[if_neg c2] at hend ⊢
    refine eN c2 ?_
    by_cases c3:codeV v=3
    ·rw[if_pos c3] at hend ⊢
     exact eP c3 (Ev.bind (znm wide ha hb hp hsl hm h hq v dot) hend)
    ·rw[if_neg c3] at hend ⊢
     refine eN c3 ?_
     by_cases c4:codeV v=4
     ·rw[if_pos c4] at hend ⊢
      refine eP c4 ?_
      rw[zjX _ _ _ _ _ (by omega) (by omega)]
      exact hend
     ·rw[if_neg c4] at hend ⊢
      refine eN c4 ?_
      exact eP (by omega) (Ev.bind (znn _ _ v dot hm h hq) hend)
 cases sharp with
 |true=>exact eP rfl (way (v !=118) (by simp))
 |false=>exact eN (by simp) (way false rfl)
theorem zhN(wide:Bool){a:Nat}(ha:a<18446744073709551616)(plus minus sharp space zero:Bool)(wid prec v:Int):
 Ev (λk=>zar.f k (a:Int) (szB wide) plus minus sharp space zero wid prec v) (floatS wide a plus minus sharp space zero wid prec v):=by
 have hi:=zeh wide;unfold zar.f floatS;rw[parts_eq wide a ha];simp only[Option.bind_some];refine Ev.bind (zkg v) ?_;have hk: ∀x:Int,x=(partsS wide a).2.2.2->x≠3:=by
  intro x hx;rw[hx];unfold partsS;split
  ·exact(by decide:(0:Int)≠3)
  ·dsimp only;split<;>decide
 refine eN (hk _ rfl) ?_;refine Ev.step (λk=>by simp only[zar.j0];rfl) ?_;by_cases c0:codeV v=0
 ·rw[if_pos c0];exact eP (beq_iff_eq.mpr c0) (Ev.now _)
 ·rw[if_neg c0];refine eN (by rw[beq_eq_false_iff_ne.mpr c0];simp) ?_
  have signs: ∀{R:ByteArray×Bool} (x9 B A:Int) (neg:Bool),Ev (λk=>zar.j2 k (a:Int) (szB wide) x9 B A (codeV v) (S (signL neg A plus space)) plus minus sharp space zero wid prec v) R->
   Ev (λk=>if neg=true then(zar.j1 k (a:Int) (szB wide) x9 B A (codeV v) (⟨#[]⟩:ByteArray) (A !=2) plus minus sharp space zero wid prec v) else(zar.j1 k (a:Int) (szB wide) x9 B A (codeV v) (⟨#[]⟩:ByteArray) false plus minus sharp space zero wid prec v)) R:=by
   intro R x9 B A neg h
   cases neg with
   |true=>exact eP rfl (ziB _ _ _ _ _ _ true plus minus sharp space zero wid prec v h _ (by rw[Bool.eq_iff_iff];simp))
   |false=>exact eN (by simp) (ziB _ _ _ _ _ _ false plus minus sharp space zero wid prec v h _ (by rw[Bool.eq_iff_iff];simp))
  by_cases c1:bareN wide a<ii wide
  ·rw[if_pos c1];have hb:=fEl wide (Nat.le_of_lt c1);have D:=zdT wide (Nat.le_of_lt c1);have e1:partsS wide a=((a / tt wide%2==1:Bool),(fM (ff wide) (bareN wide a):Int),(fE (ff wide) (bareN wide a):Int)-(ll wide:Int),0):=by
    unfold partsS;rw[if_pos c1]
   rw[e1];exact signs _ _ _ _ (zmB (m:=fM (ff wide) (bareN wide a)) (e:=(fE (ff wide) (bareN wide a):Int)-(ll wide:Int)) wide ha rfl c1 (by omega) (by omega) (zdz _ _ _ _) plus minus sharp space zero wid prec v c0)
  ·rw[if_neg c1];have e1:partsS wide a=((a / tt wide%2==1:Bool),0,0,if bareN wide a=ii wide then 1 else 2):=by
    unfold partsS;rw[if_neg c1]
   rw[e1];by_cases c2:bareN wide a=ii wide
   ·rw[if_pos c2,if_pos c2];refine signs _ _ _ _ ?_;refine Ev.step (λk=>by simp only[zar.j2];rfl) ?_;refine eN (by decide) ?_;refine eP (by first|trivial|rfl) ?_;exact zhM (rest:=[73,110,102]) (zdz _ _ _ _) ⟨by decide,by decide⟩ plus minus sharp space false wid prec v
   ·rw[if_neg c2,if_neg c2];refine signs _ _ _ _ ?_;refine Ev.step (λk=>by simp only[zar.j2];rfl) ?_;refine eP (by first|trivial|rfl) ?_;exact zhM (rest:=[78,97,78]) (zdz _ _ _ _) ⟨by decide,by decide⟩ plus minus sharp space false wid prec v
def HeadD(l:List UInt8):Prop:= ∃c t,l=c::t/\48<=c.toNat/\c.toNat<=57
theorem HeadD.app{a:List UInt8}(h:HeadD a)(b:List UInt8):HeadD (a++b):=by
 obtain⟨c,t,rfl,h1⟩:=h;exact⟨c,t++b,rfl,h1⟩
theorem zlr(sign rest:List UInt8)(minus zero:Bool){wid:Int}(h:wid<=0):endL sign rest minus zero wid=sign++rest:=by
 (have h1:(max 0 (min wid 1000)-(sign.length:Int)-(rest.length:Int)).toNat=0:=by omega);have h2: ∀l:List UInt8,padL l minus false wid=l:=by
  intro l;unfold padL;rw[show(max 0 (min wid 1000)-(l.length:Int)).toNat=0 by omega];cases minus<;>simp
 unfold endL;rw[h1,h2];split<;>simp
end Go.Proofs.YtilidabdbhaljaaGreatDoor.Pure
end
section
namespace Go.Proofs.YtilidabdbhaljaaGreatDoor.Fn
open Go.RowKit Go.Proofs.YtilidabdbhaljaaGreatDoorW.PrintWords Go.Proofs.YtilidabdbhaljaaGreatDoorW.PrintLast Go.Proofs.YtilidabdbhaljaaGreatDoorW.PrintMore
set_option maxHeartbeats 8000000
set_option maxRecDepth 100000
section
attribute [local go_sem] fnW_0 fnW_1 fnW_2 fnW_3 fnW_4 fnW_5 fnW_guard fnW_eql zaC zaD zaI zaJ
def complexH(k:Nat)(M O:Int)(h:Int)(U A B D E:Bool)(I J K:Int):Option (ByteArray×Bool):=
  (zar.f k M h U A B D E I J K).bind λa=>if a.2=true then((zar.f k O h true A B D E I J K).bind λb=>if b.2=true then(if 1+a.1.size<=9223372036854775807 then(if((⟨#[40]⟩:ByteArray)++a.1).size+b.1.size<=9223372036854775807 then(if(((⟨#[40]⟩:ByteArray)++a.1)++b.1).size+2<=9223372036854775807 then some ((((⟨#[40]⟩:ByteArray)++a.1)++b.1)++(⟨#[105,41]⟩:ByteArray),true) else none) else none) else none) else some ((⟨#[]⟩:ByteArray),false)) else some ((⟨#[]⟩:ByteArray),false)
def zby.f(k:Nat)(A B:Int)(a1:Int)(D E I J K:Bool)(M O U:Int):Option (ByteArray×Bool):=
  if a1=64 then complexH k A B 32 D E I J K M O U else if a1=128 then complexH k A B 64 D E I J K M O U else some ((⟨#[]⟩:ByteArray),false)
theorem hG4{α:Type}{c:Prop}[Decidable c]{a:Option α}{r:α}(h:(if c then a else none)=some r):c/\a=some r:=by
 by_cases d:c
 ·rw[if_pos d] at h;exact⟨d,h⟩
 ·rw[if_neg d] at h;cases h
theorem zi4(k:Nat)(O U:Int)(M A B D E:Bool)(I J K:Int)(r1:ByteArray)(r2:Bool)(w:World)(H:complexH k O U 32 M A B D E I J K=some (r1,r2)):
    Calls Tryz.prog 13 #[.int .u64 O,.int .u64 U,.int .i64 64,.agg #[.bool M,.bool A,.bool B,.bool D,.bool E,.int .i64 I,.int .i64 J,.int .i32 K]] w λe w'=>e= .returned (.tuple #[.string r1,.bool r2])/\Below w.heap.size w w':=by
 unfold complexH at H;replace H:=bs H;obtain⟨⟨t1,t2⟩,A1,H⟩:=H;dsimp only at H;have HH:=zaa.mk H;clear H;have bC:=Tryz.underlying26;have bD:=Tryz.underlying43;have bE:=Tryz.underlying44;(have bG: ∀W:World,(Instr.index 44 (.agg #[.int .u64 O,.int .u64 U]) (.int .i64 0)).run Tryz.prog W= .ok (.int .u64 O) W:=by intro W;kernel_rfl);(have bH: ∀W:World,(Instr.index 44 (.agg #[.int .u64 O,.int .u64 U]) (.int .i64 1)).run Tryz.prog W= .ok (.int .u64 U) W:=by intro W;kernel_rfl);have HB:=zaa.mk (Below.refl w.heap.size w);go_enter Tryz.func13,Tryz.ntmps13;go_wp2_with (first|((with_reducible refine zae (N:=7) rfl ?_);refine zaf rfl (N:=7) rfl (cs:=#[.bool M,.bool A,.bool B,.bool D,.bool E,.int .i64 I,.int .i64 J,.int .i32 K]) (t:=26) gz ?_;intro Z hg w4 hbox hb;have bU:=gN bz hg;have X:=zaa.mk hbox;replace HB:=bN bz hb;clear hb hbox hg;obtain⟨aU,aV,aW,aX,aY,aZ,a1,a2,a3,a4,a5,a6,a7,a8,a9,ba⟩:=cz8 (W:=w4) X)|((with_reducible refine zae (N:=10) rfl ?_);refine zaf rfl (N:=10) rfl (cs:=#[.string (⟨#[]⟩:ByteArray),.string (⟨#[]⟩:ByteArray)]) (t:=43) gz ?_;intro aa hg w5 hbox hb;have bV:=gN bz hg;have aS:=lN (g:=Z) (cs:=#[.bool M,.bool A,.bool B,.bool D,.bool E,.int .i64 I,.int .i64 J,.int .i32 K]) hg bk;have aT:=rN (g:=Z) (cs:=#[.bool M,.bool A,.bool B,.bool D,.bool E,.int .i64 I,.int .i64 J,.int .i32 K]) hg bk;replace X:=kN (g:=Z) (cs:=#[.bool M,.bool A,.bool B,.bool D,.bool E,.int .i64 I,.int .i64 J,.int .i32 K]) hb bk;have Y:=zaa.mk hbox;replace HB:=bN bz hb;clear hb hbox hg;have bI:=aS.out;have bJ:=aT.out;obtain⟨bb,bd,be,bf,bg,bh,bi,bj,bl,bm,bn,bo,bp,bq,br,bu⟩:=cz8 (W:=w5) X;obtain⟨bv,bw,bA,bB⟩:=cz2 (W:=w5) Y));refine wp_loop_rounds 3 ?_;rw[rounds_succ];cases t2 with
 |false=>
  have H:=HH.out;clear HH;rw[if_neg (by simp)] at H;simp only[Option.some.injEq,Prod.mk.injEq] at H;obtain⟨rfl,rfl⟩:=H;go_wp2_with (first|(go_at_call 18;(with_reducible refine(zar.calls k O 32 M A B D E I J K t1 false _ A1.out).mono ?_);rintro e w6 ⟨rfl,hb⟩;replace X:=kN (g:=Z) (cs:=#[.bool M,.bool A,.bool B,.bool D,.bool E,.int .i64 I,.int .i64 J,.int .i32 K]) hb bk;replace Y:=kN (g:=aa) (cs:=#[.string (⟨#[]⟩:ByteArray),.string (⟨#[]⟩:ByteArray)]) hb bk;replace HB:=bN bz hb;clear hb;obtain⟨ab,ac,ad,ae,af,ag,ah,ai,aj,ak,al,am,an,ao,ap,ar⟩:=cz8 (W:=w6) X;obtain⟨au,av,aw,ax⟩:=cz2 (W:=w6) Y));go_ret2;exact⟨ez,bz⟩
 |true=>
  have H:=HH.out;clear HH;rw[if_pos rfl] at H;replace H:=bs H;obtain⟨⟨t3,t4⟩,A2,H⟩:=H;dsimp only at H;have HH:=zaa.mk H;clear H;go_wp2_with (first|(go_at_call 18;(with_reducible refine(zar.calls k O 32 M A B D E I J K t1 true _ A1.out).mono ?_);rintro e w6 ⟨rfl,hb⟩;replace X:=kN (g:=Z) (cs:=#[.bool M,.bool A,.bool B,.bool D,.bool E,.int .i64 I,.int .i64 J,.int .i32 K]) hb bk;replace Y:=kN (g:=aa) (cs:=#[.string (⟨#[]⟩:ByteArray),.string (⟨#[]⟩:ByteArray)]) hb bk;replace HB:=bN bz hb;clear hb;obtain⟨ab,ac,ad,ae,af,ag,ah,ai,aj,ak,al,am,an,ao,ap,ar⟩:=cz8 (W:=w6) X;obtain⟨au,av,aw,ax⟩:=cz2 (W:=w6) Y));rw[rounds_succ];cases t4 with
  |false=>
   have H:=HH.out;clear HH;rw[if_neg (by simp)] at H;simp only[Option.some.injEq,Prod.mk.injEq] at H;obtain⟨rfl,rfl⟩:=H;go_wp2_with (first|(go_at_call 18;(with_reducible refine(zar.calls k U 32 true A B D E I J K t3 false _ A2.out).mono ?_);rintro e w7 ⟨rfl,hb⟩;replace X:=kN (g:=Z) (cs:=#[.bool true,.bool A,.bool B,.bool D,.bool E,.int .i64 I,.int .i64 J,.int .i32 K]) hb bk;replace Y:=kN (g:=aa) (cs:=#[.string t1,.string (⟨#[]⟩:ByteArray)]) hb bk;replace HB:=bN bz hb;clear hb;obtain⟨ay,az,aA,aB,aC,aD,aE,aF,aG,aH,aI,aJ,aK,aL,aM,aN⟩:=cz8 (W:=w7) X;obtain⟨aO,aP,aQ,aR⟩:=cz2 (W:=w7) Y));go_ret2;exact⟨ez,bz⟩
  |true=>
   have H:=HH.out;clear HH;rw[if_pos rfl] at H;obtain⟨c1,H⟩:=hG4 H;obtain⟨c2,H⟩:=hG4 H;obtain⟨c3,H⟩:=hG4 H;have bK:=eq_true c1;have bL:=eq_true c2;have bM:=eq_true c3;have bO:=eq_false (Nat.not_lt.2 c1);have bP:=eq_false (Nat.not_lt.2 c2);have bQ:=eq_false (Nat.not_lt.2 c3);have bR:(9223372036854775807<1+t1.size+t3.size)=False:=eq_false (by have h_:=c2;rw[ByteArray.size_append] at h_;exact Nat.not_lt.2 h_);have bS:(9223372036854775807<1+t1.size+t3.size+2)=False:=eq_false (by have h_:=c3;rw[ByteArray.size_append,ByteArray.size_append] at h_;exact Nat.not_lt.2 h_);clear c1 c2 c3;simp only[Option.some.injEq,Prod.mk.injEq] at H;obtain⟨rfl,rfl⟩:=H;go_wp2_with (first|(go_at_call 18;(with_reducible refine(zar.calls k U 32 true A B D E I J K t3 true _ A2.out).mono ?_);rintro e w7 ⟨rfl,hb⟩;replace X:=kN (g:=Z) (cs:=#[.bool true,.bool A,.bool B,.bool D,.bool E,.int .i64 I,.int .i64 J,.int .i32 K]) hb bk;replace Y:=kN (g:=aa) (cs:=#[.string t1,.string (⟨#[]⟩:ByteArray)]) hb bk;replace HB:=bN bz hb;clear hb;obtain⟨ay,az,aA,aB,aC,aD,aE,aF,aG,aH,aI,aJ,aK,aL,aM,aN⟩:=cz8 (W:=w7) X;obtain⟨aO,aP,aQ,aR⟩:=cz2 (W:=w7) Y));rw[rounds_succ];go_wp2;go_ret2;exact⟨ez,bz⟩
theorem zh5(k:Nat)(O U:Int)(M A B D E:Bool)(I J K:Int)(r1:ByteArray)(r2:Bool)(w:World)(H:complexH k O U 64 M A B D E I J K=some (r1,r2)):
    Calls Tryz.prog 13 #[.int .u64 O,.int .u64 U,.int .i64 128,.agg #[.bool M,.bool A,.bool B,.bool D,.bool E,.int .i64 I,.int .i64 J,.int .i32 K]] w λe w'=>e= .returned (.tuple #[.string r1,.bool r2])/\Below w.heap.size w w':=by
 unfold complexH at H;replace H:=bs H;obtain⟨⟨t1,t2⟩,A1,H⟩:=H;dsimp only at H;have HH:=zaa.mk H;clear H;have bC:=Tryz.underlying26;have bD:=Tryz.underlying43;have bE:=Tryz.underlying44;(have bG: ∀W:World,(Instr.index 44 (.agg #[.int .u64 O,.int .u64 U]) (.int .i64 0)).run Tryz.prog W= .ok (.int .u64 O) W:=by intro W;kernel_rfl);(have bH: ∀W:World,(Instr.index 44 (.agg #[.int .u64 O,.int .u64 U]) (.int .i64 1)).run Tryz.prog W= .ok (.int .u64 U) W:=by intro W;kernel_rfl);have HB:=zaa.mk (Below.refl w.heap.size w);go_enter Tryz.func13,Tryz.ntmps13;go_wp2_with (first|((with_reducible refine zae (N:=7) rfl ?_);refine zaf rfl (N:=7) rfl (cs:=#[.bool M,.bool A,.bool B,.bool D,.bool E,.int .i64 I,.int .i64 J,.int .i32 K]) (t:=26) gz ?_;intro Z hg w4 hbox hb;have bU:=gN bz hg;have X:=zaa.mk hbox;replace HB:=bN bz hb;clear hb hbox hg;obtain⟨aU,aV,aW,aX,aY,aZ,a1,a2,a3,a4,a5,a6,a7,a8,a9,ba⟩:=cz8 (W:=w4) X)|((with_reducible refine zae (N:=10) rfl ?_);refine zaf rfl (N:=10) rfl (cs:=#[.string (⟨#[]⟩:ByteArray),.string (⟨#[]⟩:ByteArray)]) (t:=43) gz ?_;intro aa hg w5 hbox hb;have bV:=gN bz hg;have aS:=lN (g:=Z) (cs:=#[.bool M,.bool A,.bool B,.bool D,.bool E,.int .i64 I,.int .i64 J,.int .i32 K]) hg bk;have aT:=rN (g:=Z) (cs:=#[.bool M,.bool A,.bool B,.bool D,.bool E,.int .i64 I,.int .i64 J,.int .i32 K]) hg bk;replace X:=kN (g:=Z) (cs:=#[.bool M,.bool A,.bool B,.bool D,.bool E,.int .i64 I,.int .i64 J,.int .i32 K]) hb bk;have Y:=zaa.mk hbox;replace HB:=bN bz hb;clear hb hbox hg;have bI:=aS.out;have bJ:=aT.out;obtain⟨bb,bd,be,bf,bg,bh,bi,bj,bl,bm,bn,bo,bp,bq,br,bu⟩:=cz8 (W:=w5) X;obtain⟨bv,bw,bA,bB⟩:=cz2 (W:=w5) Y));refine wp_loop_rounds 3 ?_;rw[rounds_succ];cases t2 with
 |false=>
  have H:=HH.out;clear HH;rw[if_neg (by simp)] at H;simp only[Option.some.injEq,Prod.mk.injEq] at H;obtain⟨rfl,rfl⟩:=H;go_wp2_with (first|(go_at_call 18;(with_reducible refine(zar.calls k O 64 M A B D E I J K t1 false _ A1.out).mono ?_);rintro e w6 ⟨rfl,hb⟩;replace X:=kN (g:=Z) (cs:=#[.bool M,.bool A,.bool B,.bool D,.bool E,.int .i64 I,.int .i64 J,.int .i32 K]) hb bk;replace Y:=kN (g:=aa) (cs:=#[.string (⟨#[]⟩:ByteArray),.string (⟨#[]⟩:ByteArray)]) hb bk;replace HB:=bN bz hb;clear hb;obtain⟨ab,ac,ad,ae,af,ag,ah,ai,aj,ak,al,am,an,ao,ap,ar⟩:=cz8 (W:=w6) X;obtain⟨au,av,aw,ax⟩:=cz2 (W:=w6) Y));go_ret2;exact⟨ez,bz⟩
 |true=>
  have H:=HH.out;clear HH;rw[if_pos rfl] at H;replace H:=bs H;obtain⟨⟨t3,t4⟩,A2,H⟩:=H;dsimp only at H;have HH:=zaa.mk H;clear H;go_wp2_with (first|(go_at_call 18;(with_reducible refine(zar.calls k O 64 M A B D E I J K t1 true _ A1.out).mono ?_);rintro e w6 ⟨rfl,hb⟩;replace X:=kN (g:=Z) (cs:=#[.bool M,.bool A,.bool B,.bool D,.bool E,.int .i64 I,.int .i64 J,.int .i32 K]) hb bk;replace Y:=kN (g:=aa) (cs:=#[.string (⟨#[]⟩:ByteArray),.string (⟨#[]⟩:ByteArray)]) hb bk;replace HB:=bN bz hb;clear hb;obtain⟨ab,ac,ad,ae,af,ag,ah,ai,aj,ak,al,am,an,ao,ap,ar⟩:=cz8 (W:=w6) X;obtain⟨au,av,aw,ax⟩:=cz2 (W:=w6) Y));rw[rounds_succ];cases t4 with
  |false=>
   have H:=HH.out;clear HH;rw[if_neg (by simp)] at H;simp only[Option.some.injEq,Prod.mk.injEq] at H;obtain⟨rfl,rfl⟩:=H;go_wp2_with (first|(go_at_call 18;(with_reducible refine(zar.calls k U 64 true A B D E I J K t3 false _ A2.out).mono ?_);rintro e w7 ⟨rfl,hb⟩;replace X:=kN (g:=Z) (cs:=#[.bool true,.bool A,.bool B,.bool D,.bool E,.int .i64 I,.int .i64 J,.int .i32 K]) hb bk;replace Y:=kN (g:=aa) (cs:=#[.string t1,.string (⟨#[]⟩:ByteArray)]) hb bk;replace HB:=bN bz hb;clear hb;obtain⟨ay,az,aA,aB,aC,aD,aE,aF,aG,aH,aI,aJ,aK,aL,aM,aN⟩:=cz8 (W:=w7) X;obtain⟨aO,aP,aQ,aR⟩:=cz2 (W:=w7) Y));go_ret2;exact⟨ez,bz⟩
  |true=>
   have H:=HH.out;clear HH;rw[if_pos rfl] at H;obtain⟨c1,H⟩:=hG4 H;obtain⟨c2,H⟩:=hG4 H;obtain⟨c3,H⟩:=hG4 H;have bK:=eq_true c1;have bL:=eq_true c2;have bM:=eq_true c3;have bO:=eq_false (Nat.not_lt.2 c1);have bP:=eq_false (Nat.not_lt.2 c2);have bQ:=eq_false (Nat.not_lt.2 c3);have bR:(9223372036854775807<1+t1.size+t3.size)=False:=eq_false (by have h_:=c2;rw[ByteArray.size_append] at h_;exact Nat.not_lt.2 h_);have bS:(9223372036854775807<1+t1.size+t3.size+2)=False:=eq_false (by have h_:=c3;rw[ByteArray.size_append,ByteArray.size_append] at h_;exact Nat.not_lt.2 h_);clear c1 c2 c3;simp only[Option.some.injEq,Prod.mk.injEq] at H;obtain⟨rfl,rfl⟩:=H;go_wp2_with (first|(go_at_call 18;(with_reducible refine(zar.calls k U 64 true A B D E I J K t3 true _ A2.out).mono ?_);rintro e w7 ⟨rfl,hb⟩;replace X:=kN (g:=Z) (cs:=#[.bool true,.bool A,.bool B,.bool D,.bool E,.int .i64 I,.int .i64 J,.int .i32 K]) hb bk;replace Y:=kN (g:=aa) (cs:=#[.string t1,.string (⟨#[]⟩:ByteArray)]) hb bk;replace HB:=bN bz hb;clear hb;obtain⟨ay,az,aA,aB,aC,aD,aE,aF,aG,aH,aI,aJ,aK,aL,aM,aN⟩:=cz8 (W:=w7) X;obtain⟨aO,aP,aQ,aR⟩:=cz2 (W:=w7) Y));rw[rounds_succ];go_wp2;go_ret2;exact⟨ez,bz⟩
theorem zby.calls(k:Nat)(O U:Int)(a1:Int)(A B D E I:Bool)(J K M:Int)(r1:ByteArray)(r2:Bool)(w:World)(h:zby.f k O U a1 A B D E I J K M=some (r1,r2)):
 Calls Tryz.prog 13 #[.int .u64 O,.int .u64 U,.int .i64 a1,.agg #[.bool A,.bool B,.bool D,.bool E,.bool I,.int .i64 J,.int .i64 K,.int .i32 M]] w λe w'=>e= .returned (.tuple #[.string r1,.bool r2])/\Below w.heap.size w w':=by
 unfold zby.f at h;by_cases d1:a1=64
 ·rw[if_pos d1] at h;subst d1;exact zi4 k O U A B D E I J K M r1 r2 w h
 ·rw[if_neg d1] at h;by_cases d2:a1=128
  ·rw[if_pos d2] at h;subst d2;exact zh5 k O U A B D E I J K M r1 r2 w h
  ·rw[if_neg d2] at h;simp only[Option.some.injEq,Prod.mk.injEq] at h;obtain⟨rfl,rfl⟩:=h;obtain⟨e1,e2⟩:=eF d1;obtain⟨e3,e4⟩:=eF d2;have ao:=Tryz.underlying26;have HB:=zaa.mk (Below.refl w.heap.size w);go_enter Tryz.func13,Tryz.ntmps13;go_wp2_with (first|((with_reducible refine zae (N:=7) rfl ?_);refine zaf rfl (N:=7) rfl (cs:=#[.bool A,.bool B,.bool D,.bool E,.bool I,.int .i64 J,.int .i64 K,.int .i32 M]) (t:=26) gz ?_;intro ap hg w4 hbox hb;have ar:=gN bz hg;have an:=zaa.mk hbox;replace HB:=bN bz hb;clear hb hbox hg;obtain⟨X,Y,Z,aa,ab,ac,ad,ae,af,ag,ah,ai,aj,ak,al,am⟩:=cz8 (W:=w4) an));go_ret2;exact⟨ez,bz⟩
def zbX.f(k:Nat):Option (Bool):=(zby.f k 4609434218613702656 13835058055282163712 128 false false false false false (-1) (-1) 118).bind λB=>((zaO.f k (⟨#[40,49,101,43,48,54,45,50,105,41]⟩:ByteArray)).bind λA=>((zaO.f k (⟨#[40,49,105,41]⟩:ByteArray)).bind λD=>(if B.2=true then(if A.2.2=true then(if D.2.2=true then(some false) else(if B.1.toList=([40,49,46,53,45,50,105,41]:List UInt8) then(if A.1.toList=([49,101,43,48,54]:List UInt8) then(some (A.2.1.toList==([45,50]:List UInt8))) else(some false)) else(some false))) else(some false)) else(some false))))
theorem zbX.calls(k:Nat)(r:Bool)(w:World)(h:zbX.f k=some r):
 Calls Tryz.prog 15 #[] w λe w'=>e= .returned (.bool r)/\Below w.heap.size w w':=by
 have ac:=Tryz.underlying26;have HB:=zaa.mk (Below.refl w.heap.size w);have H:((zby.f k 4609434218613702656 13835058055282163712 128 false false false false false (-1) (-1) 118).bind λK=>((zaO.f k (⟨#[40,49,101,43,48,54,45,50,105,41]⟩:ByteArray)).bind λJ=>((zaO.f k (⟨#[40,49,105,41]⟩:ByteArray)).bind λU=>(if K.2=true then(if J.2.2=true then(if U.2.2=true then(some false) else(if K.1.toList=([40,49,46,53,45,50,105,41]:List UInt8) then(if J.1.toList=([49,101,43,48,54]:List UInt8) then(some (J.2.1.toList==([45,50]:List UInt8))) else(some false)) else(some false))) else(some false)) else(some false)))))=some r:=h;clear h;replace H:=bs H;obtain⟨⟨A,X⟩,A1,H⟩:=H;dsimp only at H;replace H:=bs H;obtain⟨⟨B,D,O⟩,A2,H⟩:=H;dsimp only at H;replace H:=bs H;obtain⟨⟨E,I,M⟩,A3,H⟩:=H;dsimp only at H;by_cases c4:X=true;case neg=>
  replace c4:=Bool.eq_false_iff.mpr c4;subst c4;replace H:=hF H;obtain rfl:=Option.some.inj H;go_enter Tryz.func15,Tryz.ntmps15;go_wp2_with (first|((with_reducible refine zac (f:=13) rfl ?_);refine gB Tryz.func13 (zby.calls k 4609434218613702656 13835058055282163712 128 false false false false false (-1) (-1) 118 A false _ A1.out) ?_;intro ah hb;replace HB:=bN bz hb;clear hb)|((with_reducible refine zac (f:=16) rfl ?_);refine zbm (some 15) rfl rfl Tryz.func16 (by kernel_rfl) rfl #[.string (⟨#[40,49,101,43,48,54,45,50,105,41]⟩:ByteArray)] rfl lz ?_;(with_reducible refine(zaO.calls k (⟨#[40,49,101,43,48,54,45,50,105,41]⟩:ByteArray) B D O _ A2.out).mono ?_);rintro e w' ⟨rfl,⟨nd,rfl⟩⟩;refine⟨_,rfl,?_⟩)|((with_reducible refine zac (f:=16) rfl ?_);refine zbm (some 20) rfl rfl Tryz.func16 (by kernel_rfl) rfl #[.string (⟨#[40,49,105,41]⟩:ByteArray)] rfl lz ?_;(with_reducible refine(zaO.calls k (⟨#[40,49,105,41]⟩:ByteArray) E I M _ A3.out).mono ?_);rintro e w' ⟨rfl,⟨nd,rfl⟩⟩;refine⟨_,rfl,?_⟩));go_ret;exact⟨ez,bz⟩
 subst c4;replace H:=hT H;by_cases c5:O=true;case neg=>
  replace c5:=Bool.eq_false_iff.mpr c5;subst c5;replace H:=hF H;obtain rfl:=Option.some.inj H;go_enter Tryz.func15,Tryz.ntmps15;go_wp2_with (first|((with_reducible refine zac (f:=13) rfl ?_);refine gB Tryz.func13 (zby.calls k 4609434218613702656 13835058055282163712 128 false false false false false (-1) (-1) 118 A true _ A1.out) ?_;intro ag hb;replace HB:=bN bz hb;clear hb)|((with_reducible refine zac (f:=16) rfl ?_);refine zbm (some 15) rfl rfl Tryz.func16 (by kernel_rfl) rfl #[.string (⟨#[40,49,101,43,48,54,45,50,105,41]⟩:ByteArray)] rfl lz ?_;(with_reducible refine(zaO.calls k (⟨#[40,49,101,43,48,54,45,50,105,41]⟩:ByteArray) B D false _ A2.out).mono ?_);rintro e w' ⟨rfl,⟨nd,rfl⟩⟩;refine⟨_,rfl,?_⟩)|((with_reducible refine zac (f:=16) rfl ?_);refine zbm (some 20) rfl rfl Tryz.func16 (by kernel_rfl) rfl #[.string (⟨#[40,49,105,41]⟩:ByteArray)] rfl lz ?_;(with_reducible refine(zaO.calls k (⟨#[40,49,105,41]⟩:ByteArray) E I M _ A3.out).mono ?_);rintro e w' ⟨rfl,⟨nd,rfl⟩⟩;refine⟨_,rfl,?_⟩));go_ret;exact⟨ez,bz⟩
 subst c5;replace H:=hT H;by_cases c6:M=true
 (·subst c6;replace H:=hT H;obtain rfl:=Option.some.inj H;go_enter Tryz.func15,Tryz.ntmps15;go_wp2_with (first|((with_reducible refine zac (f:=13) rfl ?_);refine gB Tryz.func13 (zby.calls k 4609434218613702656 13835058055282163712 128 false false false false false (-1) (-1) 118 A true _ A1.out) ?_;intro w7 hb;replace HB:=bN bz hb;clear hb)|((with_reducible refine zac (f:=16) rfl ?_);refine zbm (some 15) rfl rfl Tryz.func16 (by kernel_rfl) rfl #[.string (⟨#[40,49,101,43,48,54,45,50,105,41]⟩:ByteArray)] rfl lz ?_;(with_reducible refine(zaO.calls k (⟨#[40,49,101,43,48,54,45,50,105,41]⟩:ByteArray) B D true _ A2.out).mono ?_);rintro e w' ⟨rfl,⟨nd,rfl⟩⟩;refine⟨_,rfl,?_⟩)|((with_reducible refine zac (f:=16) rfl ?_);refine zbm (some 20) rfl rfl Tryz.func16 (by kernel_rfl) rfl #[.string (⟨#[40,49,105,41]⟩:ByteArray)] rfl lz ?_;(with_reducible refine(zaO.calls k (⟨#[40,49,105,41]⟩:ByteArray) E I true _ A3.out).mono ?_);rintro e w' ⟨rfl,⟨nd,rfl⟩⟩;refine⟨_,rfl,?_⟩));go_ret;exact⟨ez,bz⟩);replace c6:=Bool.eq_false_iff.mpr c6;subst c6;replace H:=hF H;by_cases c8:A.toList=([40,49,46,53,45,50,105,41]:List UInt8);case neg=>
  replace H:=hN H c8;have Y:(A.toList==([40,49,46,53,45,50,105,41]:List UInt8))=false:=beq_eq_false_iff_ne.mpr c8;have Z:(A.toList !=([40,49,46,53,45,50,105,41]:List UInt8))=true:=bne_iff_ne.mpr c8;obtain rfl:=Option.some.inj H;go_enter Tryz.func15,Tryz.ntmps15;go_wp2_with (first|((with_reducible refine zac (f:=13) rfl ?_);refine gB Tryz.func13 (zby.calls k 4609434218613702656 13835058055282163712 128 false false false false false (-1) (-1) 118 A true _ A1.out) ?_;intro af hb;replace HB:=bN bz hb;clear hb)|((with_reducible refine zac (f:=16) rfl ?_);refine zbm (some 15) rfl rfl Tryz.func16 (by kernel_rfl) rfl #[.string (⟨#[40,49,101,43,48,54,45,50,105,41]⟩:ByteArray)] rfl lz ?_;(with_reducible refine(zaO.calls k (⟨#[40,49,101,43,48,54,45,50,105,41]⟩:ByteArray) B D true _ A2.out).mono ?_);rintro e w' ⟨rfl,⟨nd,rfl⟩⟩;refine⟨_,rfl,?_⟩)|((with_reducible refine zac (f:=16) rfl ?_);refine zbm (some 20) rfl rfl Tryz.func16 (by kernel_rfl) rfl #[.string (⟨#[40,49,105,41]⟩:ByteArray)] rfl lz ?_;(with_reducible refine(zaO.calls k (⟨#[40,49,105,41]⟩:ByteArray) E I false _ A3.out).mono ?_);rintro e w' ⟨rfl,⟨nd,rfl⟩⟩;refine⟨_,rfl,?_⟩));go_ret;exact⟨ez,bz⟩
 replace H:=hE H c8;have Y:(A.toList==([40,49,46,53,45,50,105,41]:List UInt8))=true:=beq_iff_eq.mpr c8;have Z:(A.toList !=([40,49,46,53,45,50,105,41]:List UInt8))=false:=bne_eq_false_iff_eq.mpr c8;clear c8;by_cases c9:B.toList=([49,101,43,48,54]:List UInt8)
 (·replace H:=hE H c9;have aa:(B.toList==([49,101,43,48,54]:List UInt8))=true:=beq_iff_eq.mpr c9;have ab:(B.toList !=([49,101,43,48,54]:List UInt8))=false:=bne_eq_false_iff_eq.mpr c9;clear c9;obtain rfl:=Option.some.inj H;go_enter Tryz.func15,Tryz.ntmps15;go_wp2_with (first|((with_reducible refine zac (f:=13) rfl ?_);refine gB Tryz.func13 (zby.calls k 4609434218613702656 13835058055282163712 128 false false false false false (-1) (-1) 118 A true _ A1.out) ?_;intro ad hb;replace HB:=bN bz hb;clear hb)|((with_reducible refine zac (f:=16) rfl ?_);refine zbm (some 15) rfl rfl Tryz.func16 (by kernel_rfl) rfl #[.string (⟨#[40,49,101,43,48,54,45,50,105,41]⟩:ByteArray)] rfl lz ?_;(with_reducible refine(zaO.calls k (⟨#[40,49,101,43,48,54,45,50,105,41]⟩:ByteArray) B D true _ A2.out).mono ?_);rintro e w' ⟨rfl,⟨nd,rfl⟩⟩;refine⟨_,rfl,?_⟩)|((with_reducible refine zac (f:=16) rfl ?_);refine zbm (some 20) rfl rfl Tryz.func16 (by kernel_rfl) rfl #[.string (⟨#[40,49,105,41]⟩:ByteArray)] rfl lz ?_;(with_reducible refine(zaO.calls k (⟨#[40,49,105,41]⟩:ByteArray) E I false _ A3.out).mono ?_);rintro e w' ⟨rfl,⟨nd,rfl⟩⟩;refine⟨_,rfl,?_⟩));go_ret;exact⟨ez,bz⟩);replace H:=hN H c9;have aa:(B.toList==([49,101,43,48,54]:List UInt8))=false:=beq_eq_false_iff_ne.mpr c9;have ab:(B.toList !=([49,101,43,48,54]:List UInt8))=true:=bne_iff_ne.mpr c9;obtain rfl:=Option.some.inj H;go_enter Tryz.func15,Tryz.ntmps15;go_wp2_with (first|((with_reducible refine zac (f:=13) rfl ?_);refine gB Tryz.func13 (zby.calls k 4609434218613702656 13835058055282163712 128 false false false false false (-1) (-1) 118 A true _ A1.out) ?_;intro ae hb;replace HB:=bN bz hb;clear hb)|((with_reducible refine zac (f:=16) rfl ?_);refine zbm (some 15) rfl rfl Tryz.func16 (by kernel_rfl) rfl #[.string (⟨#[40,49,101,43,48,54,45,50,105,41]⟩:ByteArray)] rfl lz ?_;(with_reducible refine(zaO.calls k (⟨#[40,49,101,43,48,54,45,50,105,41]⟩:ByteArray) B D true _ A2.out).mono ?_);rintro e w' ⟨rfl,⟨nd,rfl⟩⟩;refine⟨_,rfl,?_⟩)|((with_reducible refine zac (f:=16) rfl ?_);refine zbm (some 20) rfl rfl Tryz.func16 (by kernel_rfl) rfl #[.string (⟨#[40,49,105,41]⟩:ByteArray)] rfl lz ?_;(with_reducible refine(zaO.calls k (⟨#[40,49,105,41]⟩:ByteArray) E I false _ A3.out).mono ?_);rintro e w' ⟨rfl,⟨nd,rfl⟩⟩;refine⟨_,rfl,?_⟩));go_ret;exact⟨ez,bz⟩
end
end Go.Proofs.YtilidabdbhaljaaGreatDoor.Fn
end
