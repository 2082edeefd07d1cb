/- The law CplxTexts: the walks through its functions and its plain law (part 8). Own texts and the kit's printed words for this seat, without what the law does not use: put together by merge.py (of this work). -/
import Derived.Test.YtilidabdbhaljaaGreatDoorMCplxTexts7
import Derived.Handy
set_option linter.unusedVariables false
set_option linter.unusedSimpArgs false
section
namespace Go.Proofs.YtilidabdbhaljaaGreatDoor.Pure
open Go.RowKit Go.Proofs.YtilidabdbhaljaaGreatDoorW.PrintWords Go.Proofs.YtilidabdbhaljaaGreatDoorW.PrintLast Go.Proofs.YtilidabdbhaljaaGreatDoorW.PrintMore Go.Proofs.YtilidabdbhaljaaGreatDoor.Fn
def textL(wide:Bool)(a:Nat)(plus minus sharp space zero:Bool)(wid prec v:Int):List UInt8:=
  if bareN wide a<ii wide then endL (signL (a / tt wide%2==1) 0 plus space) (restL wide (bareN wide a) (fM (ff wide) (bareN wide a)) ((fE (ff wide) (bareN wide a):Int)-(ll wide:Int)) (clamp prec) v sharp) minus zero wid
  else if bareN wide a=ii wide then endL (signL (a / tt wide%2==1) 1 plus space) [73,110,102] minus false wid
  else endL (signL (a / tt wide%2==1) 2 plus space) [78,97,78] minus false wid
theorem zfw(wide:Bool)(a:Nat)(plus minus sharp space zero:Bool)(wid prec v:Int)(h:codeV v≠0):floatS wide a plus minus sharp space zero wid prec v=(S (textL wide a plus minus sharp space zero wid prec v),true):=by
 unfold floatS textL;rw[if_neg h];by_cases c1:bareN wide a<ii wide
 ·rw[if_pos c1,if_pos c1]
 ·rw[if_neg c1,if_neg c1];by_cases c2:bareN wide a=ii wide
  ·rw[if_pos c2,if_pos c2]
  ·rw[if_neg c2,if_neg c2]
theorem zgP(wide:Bool)(a:Nat)(plus minus sharp space zero:Bool)(wid prec v:Int)(h:codeV v=0):floatS wide a plus minus sharp space zero wid prec v=(⟨#[]⟩,false):=by
 unfold floatS;rw[if_pos h]
theorem zls(l:List UInt8)(m z:Bool)(wid:Int):(padL l m z wid).length<=l.length+1000:=by
 unfold padL;cases m<;>cases z<;>simp<;>omega
theorem zfR(sign rest:List UInt8)(m z:Bool)(wid:Int):(endL sign rest m z wid).length<=sign.length+rest.length+2000:=by
 unfold endL;have h:=zls (sign++(if(z&& !m)=true then List.replicate (max 0 (min wid 1000)-sign.length-rest.length).toNat 48++rest else rest)) m false wid;have h2:(if(z&& !m)=true then List.replicate (max 0 (min wid 1000)-sign.length-rest.length).toNat 48++rest else rest).length<=rest.length+1000:=by
  split
  ·rw[List.length_append,List.length_replicate];omega
  ·omega
 rw[List.length_append] at h;omega
theorem zel(wide:Bool)(a:Nat)(plus minus sharp space zero:Bool)(wid prec v:Int):(textL wide a plus minus sharp space zero wid prec v).length<=200000:=by
 have hs:=λk=>(zdz (a / tt wide%2==1) k plus space).1;unfold textL;by_cases c1:bareN wide a<ii wide
 ·rw[if_pos c1];have hb:=fEl wide (Nat.le_of_lt c1);have A:=zdT wide (Nat.le_of_lt c1);have hfit:=(zfQ wide c1 (m:=fM (ff wide) (bareN wide a)) (by omega) (e:=(fE (ff wide) (bareN wide a):Int)-(ll wide:Int)) (by omega) (zdA prec) v sharp).2;have h0:=hs 0;have h:=zfR (signL (a / tt wide%2==1) 0 plus space) (restL wide (bareN wide a) (fM (ff wide) (bareN wide a)) ((fE (ff wide) (bareN wide a):Int)-(ll wide:Int)) (clamp prec) v sharp) minus zero wid;omega
 ·rw[if_neg c1];by_cases c2:bareN wide a=ii wide
  ·rw[if_pos c2];have h0:=hs 1;have h:=zfR (signL (a / tt wide%2==1) 1 plus space) [73,110,102] minus false wid;simp at h;omega
  ·rw[if_neg c2];have h0:=hs 2;have h:=zfR (signL (a / tt wide%2==1) 2 plus space) [78,97,78] minus false wid;simp at h;omega
def szC(wide:Bool):Int:=if wide then 128 else 64
def cplxS(wide:Bool)(a b:Nat)(plus minus sharp space zero:Bool)(wid prec v:Int):ByteArray×Bool:=
  if codeV v=0 then(⟨#[]⟩,false) else(S ([40]++(textL wide a plus minus sharp space zero wid prec v++(textL wide b true minus sharp space zero wid prec v++[105,41]))),true)
theorem ziC(wide:Bool){a b:Nat}(ha:a<18446744073709551616)(hb:b<18446744073709551616)(plus minus sharp space zero:Bool)(wid prec v:Int):
 Ev (λk=>complexH k (a:Int) (b:Int) (szB wide) plus minus sharp space zero wid prec v) (cplxS wide a b plus minus sharp space zero wid prec v):=by
 have f1:=zhN wide ha plus minus sharp space zero wid prec v;have f2:=zhN wide hb true minus sharp space zero wid prec v;unfold complexH cplxS;by_cases c:codeV v=0
 ·rw[if_pos c];rw[zgP _ _ _ _ _ _ _ _ _ _ c] at f1;refine Ev.bind f1 ?_;exact eN (by simp) (Ev.now _)
 ·rw[if_neg c];rw[zfw _ _ _ _ _ _ _ _ _ _ c] at f1 f2;have l1:=zel wide a plus minus sharp space zero wid prec v;have l2:=zel wide b true minus sharp space zero wid prec v;generalize textL wide a plus minus sharp space zero wid prec v=A at*
  generalize textL wide b true minus sharp space zero wid prec v=B at*
  refine Ev.bind f1 ?_;refine eP (by first|rfl|trivial) ?_;refine Ev.bind f2 ?_;refine eP (by first|rfl|trivial) ?_;show Ev (λk=>if 1+(S A).size<=9223372036854775807 then(if((⟨#[40]⟩:ByteArray)++S A).size+(S B).size<=9223372036854775807 then(if(((⟨#[40]⟩:ByteArray)++S A)++S B).size+2<=9223372036854775807 then some ((((⟨#[40]⟩:ByteArray)++S A)++S B)++(⟨#[105,41]⟩:ByteArray),true) else none) else none) else none) _;rw[show(⟨#[40]⟩:ByteArray)=S [40] from rfl,show(⟨#[105,41]⟩:ByteArray)=S [105,41] from rfl,zbr,zbr,zbr];refine eP (by rw[zas];omega) ?_;refine eP (by rw[zas,zas,List.length_append,List.length_singleton];omega) ?_;refine eP (by rw[zas,List.length_append,List.length_append,List.length_singleton];omega) ?_;rw[show([40]++A++B)++[105,41]=[40]++(A++(B++[105,41])) by simp];exact Ev.now _
theorem zeP(wide:Bool){a b:Nat}(ha:a<18446744073709551616)(hb:b<18446744073709551616)(plus minus sharp space zero:Bool)(wid prec v:Int):
 Ev (λk=>zby.f k (a:Int) (b:Int) (szC wide) plus minus sharp space zero wid prec v) (cplxS wide a b plus minus sharp space zero wid prec v):=by
 unfold zby.f;cases wide with
 |false=>exact eP rfl (ziC false ha hb plus minus sharp space zero wid prec v)
 |true=>
  refine eN (by decide) ?_;exact eP rfl (ziC true ha hb plus minus sharp space zero wid prec v)
theorem zi5(a b:Int){n:Int}(h1:n≠64)(h2:n≠128)(plus minus sharp space zero:Bool)(wid prec v:Int):Ev (λk=>zby.f k a b n plus minus sharp space zero wid prec v) (⟨#[]⟩,false):=by
 unfold zby.f;refine eN h1 ?_;exact eN h2 (Ev.now _)
def isSg(c:UInt8):Bool:=c==43||c==45
def isEx(c:UInt8):Bool:=c==101||c==69||c==112||c==80
def cutN(l:List UInt8):Nat->Nat
  |0=>0
  |i+1=>if isSg (l.getD (i+1) 0)=true/\isEx (l.getD i 0)=false then i+1 else cutN l i
def outL(l:List UInt8)(c:Nat):ByteArray×ByteArray×Bool:=if c=0 then(⟨#[]⟩,⟨#[]⟩,false) else(S (l.take c),S (l.drop c),true)
def splitS(l:List UInt8):ByteArray×ByteArray×Bool:=
  if(Lib.hasPrefix l [40]&&Lib.hasSuffix (Lib.trimPrefix l [40]) [105,41])=true then
    outL (Lib.trimSuffix (Lib.trimPrefix l [40]) [105,41]) (cutN (Lib.trimSuffix (Lib.trimPrefix l [40]) [105,41]) ((Lib.trimSuffix (Lib.trimPrefix l [40]) [105,41]).length-1))
  else(⟨#[]⟩,⟨#[]⟩,false)
theorem ziD(l:List UInt8){i:Nat}(h:i<l.length):bt (S l) (i:Int)=((l.getD i 0).toNat:Int):=by
 rw[bt_L (S l) i (by rw[zas];exact h),List.getD_eq_getElem?_getD,List.getElem?_eq_getElem h];simp[L_S]
theorem zlt(c:UInt8):(Lib.indexByte [101,69,112,80] c<0)↔isEx c=false:=by
 (have key: ∀i:Fin 256,decide (Lib.indexByte [101,69,112,80] (UInt8.ofNat i.val)<0)= !(isEx (UInt8.ofNat i.val)):=by decide+kernel);have h:=key ⟨c.toNat,c.toNat_lt⟩;rw[UInt8.ofNat_toNat] at h;rw[<-decide_eq_true_iff (p:=Lib.indexByte [101,69,112,80] c<0),h];cases isEx c<;>simp
theorem znq(c:UInt8):isSg c=true↔((c.toNat:Int)=43\/(c.toNat:Int)=45):=by
 (have key: ∀i:Fin 256,isSg (UInt8.ofNat i.val)=decide (((UInt8.ofNat i.val).toNat:Int)=43\/((UInt8.ofNat i.val).toNat:Int)=45):=by decide+kernel);have h:=key ⟨c.toNat,c.toNat_lt⟩;rw[UInt8.ofNat_toNat] at h;rw[h,decide_eq_true_iff]
theorem znr(l:List UInt8){c:Nat}(hc:c<=l.length):(if(c:Int)=0 then(some ((⟨#[]⟩:ByteArray),(⟨#[]⟩:ByteArray),false)) else(if 0<=(c:Int) then(if(c:Int)<=((S l).size:Int) then(some ((S l).extract 0 (c:Int).toNat,(S l).extract (c:Int).toNat (S l).size,true)) else(none)) else(none)))=some (outL l c):=by
 unfold outL;by_cases h:c=0
 ·rw[if_pos (by omega),if_pos h]
 ·rw[if_neg (by omega),if_neg h,if_pos (by omega),if_pos (by rw[zas];omega),Int.toNat_natCast,zcE,zex]
theorem zga{l:List UInt8}(hl:l.length<=1000000000): ∀i:Nat,i<l.length->Ev (λk=>zaO.l0 k (S l) 0 (i:Int)) (outL l (cutN l i))
 |0,h=>by
  refine Ev.step (λk=>by simp only[zaO.l0];rfl) ?_
  refine eN (by decide) ?_
  exact eP (by first|rfl|trivial) (Ev.now _)
 |i+1,h=>by
  have hw:wrap64 (((i+1:Nat):Int)-1)=(i:Int):=by rw[w64 (by omega) (by omega)];omega
  have ih:=zga hl i (by omega)
  have hb:=ziD l h
  have B:=ziD l (i:=i) (by omega)
  have hsg:=znq (l.getD (i+1) 0)
  have hex:=zlt (l.getD i 0)
  have hcut:cutN l (i+1)=if isSg (l.getD (i+1) 0)=true/\isEx (l.getD i 0)=false then i+1 else cutN l i:=rfl
  refine Ev.step (λk=>by simp only[zaO.l0];rfl) ?_
  refine eP (by omega) ?_
  refine eP (by omega) ?_
  refine eP (by rw[zas];omega) ?_
  rw[hb]
  have A:isSg (l.getD (i+1) 0)=true->Ev (λk=>zaO.j2 k (S l) 0 ((i+1:Nat):Int) true) (outL l (cutN l (i+1))):=by
   intro hs;refine Ev.step (λk=>by simp only[zaO.j2];rfl) ?_;refine eP (by first|rfl|trivial) ?_;rw[hw];refine eP (by omega) ?_;refine eP (by rw[zas];omega) ?_;rw[B];unfold strings_IndexByte.f;simp only[Option.bind_some];(have hu:(((l.getD i 0).toNat:Int)).toNat.toUInt8=l.getD i 0:=by rw[Int.toNat_natCast];exact UInt8.ofNat_toNat);rw[hu];by_cases c:isEx (l.getD i 0)=false
   ·refine eP (hex.2 c) ?_;(have hcy:cutN l (i+1)=i+1:=by rw[hcut,if_pos ⟨hs,c⟩]);rw[hcy];exact Ev.congr (λk=>znr l (c:=i+1) (by omega)) (Ev.now _)
   ·refine eN (λe=>c (hex.1 e)) ?_;(have hcn:cutN l (i+1)=cutN l i:=by rw[hcut,if_neg (λe=>c e.2)]);rw[hcn];exact ih
  have D: ¬isSg (l.getD (i+1) 0)=true->Ev (λk=>zaO.j2 k (S l) 0 ((i+1:Nat):Int) false) (outL l (cutN l (i+1))):=by
   intro hs
   refine Ev.step (λk=>by simp only[zaO.j2];rfl) ?_
   refine eN (by simp) ?_
   have hcn:cutN l (i+1)=cutN l i:=by rw[hcut,if_neg (λe=>hs e.1)]
   rw[hw,hcn]
   exact ih
  by_cases c1:(((l.getD (i+1) 0).toNat:Nat):Int)=43
  ·refine eP c1 ?_
   rw[show((((l.getD (i+1) 0).toNat:Nat):Int)==43)=true from beq_iff_eq.mpr c1]
   exact A (hsg.2 (.inl c1))
  ·refine eN c1 ?_
   by_cases c2:(((l.getD (i+1) 0).toNat:Nat):Int)=45
   ·rw[show((((l.getD (i+1) 0).toNat:Nat):Int)==45)=true from beq_iff_eq.mpr c2]
    exact A (hsg.2 (.inr c2))
   ·rw[show((((l.getD (i+1) 0).toNat:Nat):Int)==45)=false from beq_eq_false_iff_ne.mpr c2]
    exact D (λe=>(hsg.1 e).elim c1 c2)
theorem zkl(l p:List UInt8):(Lib.trimPrefix l p).length<=l.length:=by
 unfold Lib.trimPrefix;split
 ·rw[List.length_drop];omega
 ·omega
theorem zkm(l p:List UInt8):(Lib.trimSuffix l p).length<=l.length:=by
 unfold Lib.trimSuffix;split
 ·rw[List.length_take];omega
 ·omega
theorem zhO(l:List UInt8)(hl:l.length<=1000000000):Ev (λk=>zaO.f k (S l)) (splitS l):=by
 have h1:=zkl l [40];have h2:=zkm (Lib.trimPrefix l [40]) [105,41];have e1:strings_CutPrefix.f (S l) (⟨#[40]⟩:ByteArray)=some (S (Lib.trimPrefix l [40]),Lib.hasPrefix l [40]):=rfl;have e2:strings_CutSuffix.f (S (Lib.trimPrefix l [40])) (⟨#[105,41]⟩:ByteArray)=some (S (Lib.trimSuffix (Lib.trimPrefix l [40]) [105,41]),Lib.hasSuffix (Lib.trimPrefix l [40]) [105,41]):=by
  unfold strings_CutSuffix.f;rw[if_pos (by rw[zas];omega)];rfl
 unfold zaO.f splitS;rw[e1];simp only[Option.bind_some];rw[e2];simp only[Option.bind_some];generalize Lib.trimSuffix (Lib.trimPrefix l [40]) [105,41]=t at*
 have jn:Ev (λk=>zaO.j0 k (S t) true) (⟨#[]⟩,⟨#[]⟩,false):=by
  refine Ev.step (λk=>by simp only[zaO.j0];rfl) ?_;exact eP (by first|rfl|trivial) (Ev.now _)
 have jy:Ev (λk=>zaO.j0 k (S t) false) (outL t (cutN t (t.length-1))):=by
  refine Ev.step (λk=>by simp only[zaO.j0];rfl) ?_;refine eN (by simp) ?_;rw[zas];cases t with
  |nil=>
   rw[w64 (by decide) (by decide)];refine Ev.step (λk=>by simp only[zaO.l0];rfl) ?_;refine eN (by decide) ?_;exact eP (by first|rfl|trivial) (Ev.now _)
  |cons c t=>
   (have h3:(c::t).length-1<(c::t).length:=by simp);have h:=zga (l:=c::t) (by omega) ((c::t).length-1) h3;rw[w64 (by simp) (by omega),show(((c::t).length:Nat):Int)-1=(((c::t).length-1:Nat):Int) by simp];exact h
 cases Lib.hasPrefix l [40] with
 |false=>
  refine eN (by simp) ?_;exact jn
 |true=>
  refine eP rfl ?_;cases Lib.hasSuffix (Lib.trimPrefix l [40]) [105,41] with
  |false=>exact jn
  |true=>exact jy
theorem znK:exV true 4607182418800017408=([49],1):=by decide+kernel
theorem zlJ:exV true 4611686018427387904=([50],1):=by decide+kernel
theorem zns:exV true 4609434218613702656=([49,53],1):=by decide+kernel
theorem ziE{p:Nat}(hp:p<ii true){c:UInt8}(h:exV true p=([c],1)):rdX true (dX true (dig c) 0)=p:=by
 have hx:=znJ true hp;rw[h] at hx;have hv:val [c]=dig c:=by
  have:=zcB [] c;rw[zbP] at this;simpa using this
 rw[hv] at hx;(have e:((1:Int)-(([c]:List UInt8).length:Int))=0:=by simp);rw[e] at hx;rw[hx];exact zlp true hp
theorem zkn:shortD true 4611686018427387904=([50],1):=by
 unfold shortD;rw[zlJ];show shortGo true _ ([50],1) 1 1=_;rw[zc5,zdy _ _ _ (by decide)];rfl
theorem zi6:shortD true 4609434218613702656=([49,53],1):=by
 have r2:=ziE (p:=4611686018427387904) (c:=50) (by decide) zlJ;have r1:=ziE (p:=4607182418800017408) (c:=49) (by decide) znK;rw[show dig 50=2 by decide] at r2;rw[show dig 49=1 by decide] at r1;(have hn:nearU ([49,53],1) 1=2:=by decide+kernel);(have hc:cU ([49,53],1) 1=1:=by decide+kernel);have hE:cE (([49,53],1):List UInt8×Int) 1=0:=rfl;have hb:bestD true 4609434218613702656 ([49,53],1) 1=none:=by
  have n2: ¬isP true 4609434218613702656 2 0:=λe=>absurd (r2.symm.trans e) (by decide);have n1: ¬isP true 4609434218613702656 1 0:=λe=>absurd (r1.symm.trans e) (by decide);have n3: ¬isP true 4609434218613702656 (1+1) 0:=n2;unfold bestD;rw[if_neg (by decide),hn,hc,hE,if_neg n2,if_neg n1,if_neg n3]
 unfold shortD;rw[zns];show shortGo true _ ([49,53],1) 2 1=_;rw[zc5,hb,Option.getD_none,zc5,zdy _ _ _ (by decide)];rfl
theorem zko{a p:Nat}{l:List UInt8×Int}(hp:p<ii true)(h0:p≠0)(hb:bareN true a=p)(hs:shortD true p=l)(plus:Bool):textL true a plus false false false false (-1) (-1) 118=signL (a / tt true%2==1) 0 plus false++genL false false l 6 21:=by
 unfold textL;rw[hb,if_pos hp,zlr _ _ _ _ (by decide)];congr 1;unfold restL genOf shortL;rw[show codeV 118=3 from rfl,if_neg (by decide),if_neg (by decide),if_pos rfl,if_pos (by decide),if_neg h0,hs];rfl
theorem zh6:cplxS true 4609434218613702656 13835058055282163712 false false false false false (-1) (-1) 118=(S [40,49,46,53,45,50,105,41],true):=by
 unfold cplxS;rw[show codeV 118=3 from rfl,if_neg (by decide),zko (p:=4609434218613702656) (by decide) (by decide) (by decide) zi6,zko (p:=4611686018427387904) (by decide) (by decide) (by decide) zkn];decide
theorem znt:Ev (λk=>zbX.f k) true:=by
 have h1:=zeP true (a:=4609434218613702656) (b:=13835058055282163712) (by decide) (by decide) false false false false false (-1) (-1) 118;rw[zh6] at h1;have h2:=zhO [40,49,101,43,48,54,45,50,105,41] (by decide);rw[show splitS [40,49,101,43,48,54,45,50,105,41]=(S [49,101,43,48,54],S [45,50],true) from by decide] at h2;have h3:=zhO [40,49,105,41] (by decide);rw[show splitS [40,49,105,41]=(⟨#[]⟩,⟨#[]⟩,false) from by decide] at h3;unfold zbX.f;refine Ev.bind (g:=λk=>zby.f k 4609434218613702656 13835058055282163712 128 false false false false false (-1) (-1) 118) h1 ?_;refine Ev.bind (g:=λk=>zaO.f k (⟨#[40,49,101,43,48,54,45,50,105,41]⟩:ByteArray)) h2 ?_;refine Ev.bind (g:=λk=>zaO.f k (⟨#[40,49,105,41]⟩:ByteArray)) h3 ?_;refine Ev.congr (λk=>?_) (Ev.now _);rw[if_pos rfl,if_pos rfl,if_neg (by simp),if_pos (by rw[zbn,L_S]),if_pos (by rw[zbn,L_S]),zbn,L_S];rfl
theorem zkp:Ev (λk=>(zbX.f k).bind λt=>some t) true:=Ev.bind znt (Ev.now _)
theorem zfS(n:Int):zbG.f n=some (clamp n):=by
 unfold zbG.f clamp;by_cases c:n<0
 ·rw[if_pos c,show max (-1) (min n 1000)= -1 by omega]
 ·rw[if_neg c];by_cases d:n>1000
  ·rw[if_pos d,show max (-1) (min n 1000)=1000 by omega]
  ·rw[if_neg d,show max (-1) (min n 1000)=n by omega]
theorem zmC(c:UInt8)(R:List UInt8):bt (S (c::R)) 0=(c.toNat:Int):=by
 have h:=bt_L (S (c::R)) 0 (by rw[zas];exact Nat.succ_pos _);rw[show((0:Nat):Int)=0 from rfl] at h;rw[h];simp[L_S]
theorem zfd(c:UInt8):strOfNums [(c.toNat:Int)]=S [c]:=zdI [c]
theorem zi7{c:UInt8}{R:List UInt8}(hc:c.toNat<128)(hl:(c::R).length<=1000000):Ev (λk=>zau.f k (S (c::R))) ((c.toNat:Int),1,false):=by
 have hlen:(c::R).length=R.length+1:=rfl;have hw:wrap64 (c.toNat:Int)=(c.toNat:Int):=w64 (by omega) (by omega);(have A:wrap32 (c.toNat:Int)=(c.toNat:Int):=by unfold wrap32;omega);unfold zau.f;refine eN (λe=>by rw[zbD] at e;cases e) ?_;refine Ev.step (λk=>by simp only[zau.l0];rfl) ?_;refine eP (by decide) ?_;rw[decide_eq_true (show(1:Int)<=((S (c::R)).size:Int) by rw[zas,hlen];omega)];refine Ev.step (λk=>by simp only[zau.j1];rfl) ?_;refine eP (by first|rfl|trivial) ?_;refine eP (by rw[zas,hlen];omega) ?_;refine eN (by decide) ?_;refine eN (by decide) ?_;refine eN (by decide) ?_;rw[zmC,hw];refine Ev.step (λk=>by simp only[zau.j2];rfl) ?_;refine Ev.step (λk=>by simp only[zau.l1];rfl) ?_;refine eN (by decide) ?_;have hp:zbS.f (c.toNat:Int)=some true:=by
  unfold zbS.f;rw[if_pos (by omega),if_pos (by omega),if_pos (by omega)]
 rw[A,hp];simp only[Option.bind_some];refine eP (by first|rfl|trivial) ?_;have hr:Ev (λk=>zbz.f k (c.toNat:Int)) (S [c]):=by
  unfold zbz.f;rw[hp];simp only[Option.bind_some];refine eP (by first|rfl|trivial) ?_;refine Ev.step (λk=>by simp only[zbz.j0];rfl) ?_;rw[hw];refine eP (by omega) ?_;rw[show(c.toNat:Int)%256=(c.toNat:Int) by omega,zfd];exact Ev.now _
 refine Ev.bind hr ?_;refine eP (by decide) ?_;refine eP (by rw[zas,hlen];omega) ?_;refine eP (by rw[show((1:Int).toNat)=1 from rfl,zcE];rfl) ?_;exact Ev.now _
theorem zgQ: ∀(l:List UInt8) (n:Nat),Asc l->n+l.length<=1000000->Ev (λk=>zbq.l0 k (S l) (n:Int)) ((n+l.length:Nat):Int)
  |[],n,_,_=>by
    refine Ev.step (λk=>by simp only[zbq.l0];rfl) ?_
    exact eP ((zbD []).2 rfl) (Ev.now _)
  |c::l,n,h,hl=>by
    have hlen:(c::l).length=l.length+1:=rfl
    refine Ev.step (λk=>by simp only[zbq.l0];rfl) ?_
    refine eN (λe=>by rw[zbD] at e;cases e) ?_
    refine Ev.bind (zi7 (h c (by simp)) (by omega)) ?_
    refine eP (show(0:Int)<=1 by decide) ?_
    refine eP (by rw[zas,hlen];show(1:Int)<=_;omega) ?_
    have hx:(S (c::l)).extract ((1:Int)).toNat (S (c::l)).size=S l:=by
      rw[show((1:Int).toNat)=1 from rfl,zex];rfl
    show Ev (λk=>zbq.l0 k ((S (c::l)).extract ((1:Int)).toNat (S (c::l)).size) (wrap64 ((n:Int)+1))) _
    rw[hx,w64 (x:=(n:Int)+1) (by omega) (by omega),hlen,show n+(l.length+1)=n+1+l.length by omega]
    exact zgQ l (n+1) (λx hx=>h x (by simp[hx])) (by omega)
theorem zlu(c:UInt8)(n:Int):Ev (λk=>zaP.f k (c.toNat:Int) n) (S (List.replicate (min n 1000).toNat c)):=by
 have loop: ∀(j i:Nat) (N:Int),N<=1000->N=(i:Int)+j->Ev (λk=>zaP.l0 k (c.toNat:Int) N (S (List.replicate i c)) (i:Int)) (S (List.replicate (i+j) c)):=by
  intro j;induction j with
  |zero=>
   intro i N h1 h2;refine Ev.step (λk=>by simp only[zaP.l0];rfl) ?_;exact eN (by omega) (Ev.now _)
  |succ j ih=>
   intro i N h1 h2;refine Ev.step (λk=>by simp only[zaP.l0];rfl) ?_;refine eP (by omega) ?_;simp only[Option.bind_some];rw[zfd];refine eP (by rw[zas,zas,List.length_replicate,List.length_singleton];omega) ?_;rw[zbr,w64 (x:=(i:Int)+1) (by omega) (by omega),show i+(j+1)=i+1+j by omega];(have e:List.replicate i c++[c]=List.replicate (i+1) c:=by rw[List.replicate_succ',]);rw[e];exact ih (i+1) N h1 (by omega)
 have start: ∀N:Int,N<=1000->Ev (λk=>zaP.j0 k (c.toNat:Int) N) (S (List.replicate N.toNat c)):=by
  intro N hN;refine Ev.step (λk=>by simp only[zaP.j0];rfl) ?_;by_cases c0:0<=N
  ·have:=loop N.toNat 0 N hN (by omega);rw[Nat.zero_add] at this;exact this
  ·rw[show N.toNat=0 by omega];refine Ev.step (λk=>by simp only[zaP.l0];rfl) ?_;exact eN (by omega) (Ev.now _)
 unfold zaP.f;by_cases c1:n>1000
 ·refine eP c1 ?_;rw[show min n 1000=1000 by omega];exact start 1000 (by decide)
 ·refine eN c1 ?_;rw[show min n 1000=n by omega];exact start n (by omega)
theorem zmD{l:List UInt8}(h:Asc l)(hl:l.length<=900000)(p m s sp z:Bool)(wid prec v:Int):Ev (λk=>zcp.f k (S l) p m s sp z wid prec v) (S (padL l m z wid)):=by
 have hcl:=zdA wid;unfold zcp.f padL;rw[zfS];simp only[Option.bind_some];have hc:=zgQ l 0 h (by omega);rw[Nat.zero_add] at hc;have D:Ev (λk=>zbq.f k (S l)) (l.length:Int):=hc;refine Ev.bind D ?_;rw[w64 (x:=clamp wid-(l.length:Int)) (by omega) (by omega)];(have hz:(max 0 (min wid 1000)-(l.length:Int)).toNat=(clamp wid-(l.length:Int)).toNat:=by unfold clamp;omega);rw[hz];by_cases c:clamp wid-(l.length:Int)<=0
 ·refine eP c ?_;rw[show(clamp wid-(l.length:Int)).toNat=0 by omega];simp only[List.replicate_zero,List.append_nil,List.nil_append];rw[show(if m=true then l else if z=true then l else l)=l by cases m<;>cases z<;>rfl];exact Ev.now _
 ·refine eN c ?_;have hf:=λx:UInt8=>zlu x (clamp wid-(l.length:Int));rw[show min (clamp wid-(l.length:Int)) 1000=clamp wid-(l.length:Int) by omega] at hf;have A:=hf 32;have B:=hf 48;rw[show(((32:UInt8).toNat:Nat):Int)=32 from rfl] at A;rw[show(((48:UInt8).toNat:Nat):Int)=48 from rfl] at B;(have hn:(clamp wid-(l.length:Int)).toNat<=1000:=by omega);generalize (clamp wid-(l.length:Int)).toNat=n at*
  cases m with
  |true=>
   refine eP rfl ?_;refine Ev.bind A ?_;refine eP (by rw[zas,zas,List.length_replicate];omega) ?_;rw[zbr];exact Ev.now _
  |false=>
   refine eN (by simp) ?_;cases z with
   |true=>
    refine eP rfl ?_;refine Ev.bind B ?_;refine eP (by rw[zas,zas,List.length_replicate];omega) ?_;rw[zbr];exact Ev.now _
   |false=>
    refine eN (by simp) ?_;refine Ev.bind A ?_;refine eP (by rw[zas,zas,List.length_replicate];omega) ?_;rw[zbr];exact Ev.now _
theorem zem{l:List UInt8}(h:Asc l)(hl:l.length<=900000)(p m s sp z:Bool)(wid prec v:Int):Ev (λk=>zbu.f k (S l) p m s sp z wid prec v) (S (padL l m false wid)):=by
 unfold zbu.f;exact Ev.bind (zmD h hl p m s sp false wid prec v) (Ev.now _)
theorem zmE: ∀i:Fin 16,(hexS.drop i.val).take 1=[dch i.val]:=by decide
theorem zkq{i:Nat}(h:i<16):zbW.f (i:Int) false=some (S [dch i]):=by
 (have hw:wrap64 ((i:Int)+1)=((i+1:Nat):Int):=by rw[w64 (by omega) (by omega)];rfl);have hx:(⟨#[48,49,50,51,52,53,54,55,56,57,97,98,99,100,101,102]⟩:ByteArray)=S hexS:=rfl;unfold zbW.f;rw[if_neg (by simp),if_pos (by omega),hw,if_pos (by omega),if_pos (by omega),Int.toNat_natCast,Int.toNat_natCast,hx,<-S_L ((S hexS).extract i (i+1)),zdj,L_S,show i+1-i=1 by omega,zmE ⟨i,h⟩]
theorem zlv{b:Nat}(hb:2<=b/\b<=16): ∀(j n:Nat) (acc:List UInt8),n<b^(j+1)->n<=18446744073709551615->acc.length+j<=1000->(n=0->acc=[])->
 Ev (λk=>zav.l0 k (n:Int) (b:Int) (S acc)) (S (bF b j n++acc)):=by
 have hw:IntKind.u64.wrap (b:Int)=(b:Int):=u64c b (by omega);have D: ¬((b:Int)=0):=by omega
 have one: ∀(n:Nat) (acc:List UInt8) (r:ByteArray),n<=18446744073709551615->acc.length<=2000->(n>0\/acc=[])->
  Ev (λk=>zav.l0 k ((n / b:Nat):Int) (b:Int) (S (dch (n%b)::acc))) r->Ev (λk=>zav.l0 k (n:Int) (b:Int) (S acc)) r:=by
  intro n acc r hn ha hc h
  have hm:=Nat.mod_lt n (show 0<b by omega)
  have hd:n / b<=n:=Nat.div_le_self _ _
  have step:Ev (λk=>if(b:Int)=0 then none else((zbW.f (wrap64 (Int.tmod (n:Int) (b:Int))) false).bind λA=>(if A.size+(S acc).size<=9223372036854775807 then(zav.l0 k (IntKind.u64.wrap (Int.tdiv (n:Int) (b:Int))) (b:Int) (A++(S acc))) else(none)))) r:=by
   refine eN D ?_
   rw[tmodN,w64 (x:=((n%b:Nat):Int)) (by omega) (by omega),zkq (by omega)]
   simp only[Option.bind_some]
   refine eP (by rw[zas,zas,List.length_singleton];omega) ?_
   have ht:Int.tdiv (n:Int) (b:Int)=((n / b:Nat):Int):=rfl
   rw[ht,u64c _ (by omega),zbr]
   exact h
  refine Ev.step (λk=>by simp only[zav.l0];rfl) ?_
  rw[hw]
  by_cases c:(n:Int)>0
  ·exact eP c step
  ·refine eN c ?_
   refine eP ((zbD acc).2 (hc.resolve_left (by omega))) step
 intro j;induction j with
 |zero=>
  intro n acc hn B ha hc;rw[Nat.pow_one] at hn;refine one n acc _ B (by omega) ?_ ?_
  ·by_cases c:n=0
   ·exact .inr (hc c)
   ·exact .inl (by omega)
  ·rw[Nat.div_eq_of_lt hn];refine Ev.step (λk=>by simp only[zav.l0];rfl) ?_;refine eN (by decide) ?_;refine eN (λe=>by rw[zbD] at e;cases e) ?_;exact Ev.now _
 |succ j ih=>
  intro n acc hn B ha hc;refine one n acc _ B (by omega) ?_ ?_
  ·by_cases c:n=0
   ·exact .inr (hc c)
   ·exact .inl (by omega)
  ·unfold bF;by_cases c:n / b=0
   ·rw[if_pos c,c];refine Ev.step (λk=>by simp only[zav.l0];rfl) ?_;refine eN (by decide) ?_;refine eN (λe=>by rw[zbD] at e;cases e) ?_;exact Ev.now _
   ·rw[if_neg c,List.append_assoc];have hd:n / b<=n:=Nat.div_le_self _ _;have hz:n / b<b^(j+1):=by
     rw[Nat.pow_succ] at hn;exact Nat.div_lt_of_lt_mul (by rw[Nat.mul_comm];exact hn)
    exact ih (n / b) (dch (n%b)::acc) hz (by omega) (by rw[List.length_cons];omega) (λe=>absurd e c)
theorem zdU{b:Nat}(hb:b=10\/b=16){n:Nat}(hn:n<=18446744073709551615):Ev (λk=>zav.f k (n:Int) (b:Int)) (S (bT b n)):=by
 have hl:n<b^(63+1):=by
  have h2:2^64<=b^64:=Nat.pow_le_pow_left (by omega) 64;(have e:(2:Nat)^64=18446744073709551616:=by decide);show n<b^64;omega
 have h:=zlv (b:=b) (by omega) 63 n [] hl hn (by decide) (λ_=>rfl);rw[List.append_nil] at h;have key:Ev (λk=>zav.j0 k (n:Int) (b:Int) false) (S (bT b n)):=by
  refine Ev.step (λk=>by simp only[zav.j0];rfl) ?_;exact eN (by simp) h
 unfold zav.f;rcases hb with rfl|rfl
 ·refine eN (by decide) ?_;refine eN (by decide) ?_;exact eP (by decide) key
 ·refine eN (by decide) ?_;refine eN (by decide) ?_;exact eN (by decide) key
theorem zgR(n:Int): ∀(j:Nat) (l:List UInt8),l.length+j<=1000000->(n-(l.length:Int)).toNat=j->Ev (λk=>zaZ.l0 k (S l) n) (S (zsL j++l))
 |0,l,hl,h=>by
  refine Ev.step (λk=>by simp only[zaZ.l0];rfl) ?_
  exact eN (by rw[zas];omega) (Ev.now _)
 |j+1,l,hl,h=>by
  refine Ev.step (λk=>by simp only[zaZ.l0];rfl) ?_
  refine eP (by rw[zas];omega) ?_
  refine eP (by rw[zas];omega) ?_
  rw[show(⟨#[48]⟩:ByteArray)=S [48] from rfl,zbr]
  have e:zsL (j+1)++l=zsL j++([48]++l):=by
   unfold zsL;rw[List.replicate_succ',List.append_assoc]
  rw[e]
  exact zgR n j ([48]++l) (by simp;omega) (by simp;omega)
theorem zeQ(l:List UInt8)(n:Int)(h:l.length<=10000/\n<=10000):Ev (λk=>zaZ.f k (S l) n) (S (zsL (n-(l.length:Int)).toNat++l)):=zgR n _ l (by omega) rfl
theorem zeR(n:Int)(hn:n<=100000):Ev (λk=>za9.f k n) (S (zsL n.toNat)):=by
 have loop: ∀(j i:Nat),n.toNat=i+j->Ev (λk=>za9.l0 k n (S (zsL i)) (i:Int)) (S (zsL (i+j))):=by
  intro j;induction j with
  |zero=>
   intro i h;refine Ev.step (λk=>by simp only[za9.l0];rfl) ?_;exact eN (by omega) (Ev.now _)
  |succ j ih=>
   intro i h;refine Ev.step (λk=>by simp only[za9.l0];rfl) ?_;refine eP (by omega) ?_;refine eP (by rw[zas,zbE];omega) ?_;rw[show(⟨#[48]⟩:ByteArray)=S [48] from rfl,zbr,w64 (x:=(i:Int)+1) (by omega) (by omega),show i+(j+1)=i+1+j by omega];(have e:zsL i++[48]=zsL (i+1):=by unfold zsL;rw[List.replicate_succ']);rw[e];exact ih (i+1) (by omega)
 have:=loop n.toNat 0 (by omega);rw[Nat.zero_add] at this;exact this
theorem zgS(n:Int): ∀(j:Nat) (l:List UInt8),l.length+j<=1000000->(n-(l.length:Int)).toNat=j->Ev (λk=>zbl.l0 k n (S l)) (S (l++zsL j))
 |0,l,hl,h=>by
  refine Ev.step (λk=>by simp only[zbl.l0];rfl) ?_
  refine eN (by rw[zas];omega) ?_
  rw[show l++zsL 0=l from List.append_nil l]
  exact Ev.now _
 |j+1,l,hl,h=>by
  refine Ev.step (λk=>by simp only[zbl.l0];rfl) ?_
  refine eP (by rw[zas];omega) ?_
  refine eP (by rw[zas];omega) ?_
  rw[show(⟨#[48]⟩:ByteArray)=S [48] from rfl,zbr]
  have e:l++zsL (j+1)=(l++[48])++zsL j:=by
   unfold zsL;rw[List.replicate_succ,List.append_assoc];rfl
  rw[e]
  exact zgS n j (l++[48]) (by simp;omega) (by simp;omega)
theorem zfx(l:List UInt8)(p n:Int)(h:l.length<=10000/\n<=10000):Ev (λk=>zbl.f k (S l) p n) (S (fillL l n)):=zgS n _ l (by omega) rfl
theorem zeS(l:List UInt8){p:Int}(hp: -100000<=p/\p<=100000):zbM.f (S l) p=some (firstL (l,p)):=by
 unfold zbM.f firstL;by_cases c:l=[]
 ·rw[if_pos ((zbD l).2 c),if_pos c]
 ·rw[if_neg (λe=>c ((zbD l).1 e)),if_neg c,w64 (by omega) (by omega)]
theorem zfe{e least:Int}(he: -100000<=e/\e<=100000)(hl:0<=least/\least<=1000):Ev (λk=>zaK.f k e least) (S (powL [] e least)):=by
 have hb:=zd5 10 e.natAbs;have h1:=zdU (b:=10) (.inl rfl) (n:=e.natAbs) (by omega);have h2:=zeQ (bT 10 e.natAbs) least (by omega);rw[show((10:Nat):Int)=10 from rfl] at h1;(have hz:(zsL (least-((bT 10 e.natAbs).length:Int)).toNat++bT 10 e.natAbs).length<=2000:=by rw[List.length_append,zbE];omega);unfold zaK.f powL;by_cases c:e<0
 ·refine eP c ?_;rw[if_pos c,w64 (x:= -e) (by omega) (by omega),show(-e)=((e.natAbs:Nat):Int) by omega,u64c _ (by omega)];refine Ev.bind h1 ?_;refine Ev.bind h2 ?_;refine eP (by rw[zas];omega) ?_;rw[show(⟨#[45]⟩:ByteArray)=S [45] from rfl,zbr];exact Ev.now _
 ·refine eN c ?_;(have A:e=((e.natAbs:Nat):Int):=by omega);rw[if_neg c,show IntKind.u64.wrap e=((e.natAbs:Nat):Int) by rw[A,Int.natAbs_natCast];exact u64c _ (by omega)];refine Ev.bind h1 ?_;refine Ev.bind h2 ?_;refine eP (by rw[zas];omega) ?_;rw[show(⟨#[43]⟩:ByteArray)=S [43] from rfl,zbr];exact Ev.now _
def ptB(dot:Bool)(b:List UInt8):List UInt8:=if b=[]/\dot=false then [] else 46::b
theorem zgb(dot:Bool)(a b:List UInt8):a++ptB dot b=ptL dot a b:=by
 unfold ptB ptL;split
 ·exact List.append_nil a
 ·rfl
theorem zff(dot:Bool){b:List UInt8}(h:b.length<=500000):zaL.f (S b) dot=some (S (ptB dot b)):=by
 (have hs:(⟨#[46]⟩:ByteArray)++S b=S (46::b):=by rw[show(⟨#[46]⟩:ByteArray)=S [46] from rfl,zbr];rfl);unfold zaL.f ptB;by_cases c:b=[]
 ·rw[if_pos ((zbD b).2 c)];cases dot with
  |true=>rw[if_pos rfl,if_pos (by rw[zas];omega),hs,if_neg (by simp)]
  |false=>rw[if_neg (by simp),if_pos ⟨c,rfl⟩];rfl
 ·rw[if_neg (λe=>c ((zbD b).1 e)),if_pos (by rw[zas];omega),hs,if_neg (λe=>c e.1)]
theorem zfT(s:List UInt8)(e least:Int):s++powL [] e least=powL s e least:=by unfold powL;rfl
theorem ziF{l:List UInt8}(hn:l≠[])(hl:l.length<=100000){e:Int}(he: -100000<=e/\e<=100000)(v:Int)(dot:Bool):Ev (λk=>za6.f k (S l) e v dot) (S (sciL dot (bigV v) l e)):=by
 have h1:1<=l.length:=Nat.succ_le_of_lt (List.length_pos_iff.2 hn);have hlen:=zc0 dot (l.take 1) (l.drop 1);have hpw:=zfe (e:=e) (least:=2) he (by decide);have hpl:=zcV [] (e:=e) (least:=2) (by decide);(have hd:(l.drop 1).length<=100000:=by rw[List.length_drop];omega);rw[List.length_take] at hlen;have key: ∀big:Bool,Ev (λk=>za6.j0 k (S l) e dot (⟨#[101]⟩:ByteArray) big) (S (sciL dot big l e)):=by
  intro big;have fin: ∀mk:List UInt8,mk.length=1->Ev (λk=>(zaL.f ((S l).extract 1 (S l).size) dot).bind λt=>(if((S l).extract 0 1).size+t.size<=9223372036854775807 then(if(((S l).extract 0 1)++t).size+(S mk).size<=9223372036854775807 then((zaK.f k e 2).bind λA=>(if((((S l).extract 0 1)++t)++S mk).size+A.size<=9223372036854775807 then(some (((((S l).extract 0 1)++t)++S mk)++A)) else(none))) else(none)) else(none))) (S (ptL dot (l.take 1) (l.drop 1)++powL mk e 2)):=by
   intro mk hmk;rw[zex,zcE,zff dot (by omega)];simp only[Option.bind_some];have hsz:(S (l.take 1)).size+(S (ptB dot (l.drop 1))).size=(ptL dot (l.take 1) (l.drop 1)).length:=by
    rw[zas,zas,<-List.length_append,zgb]
   have hdl:(l.drop 1).length=l.length-1:=List.length_drop;refine eP (by rw[hsz];omega) ?_;rw[zbr,zgb];refine eP (by rw[zas,zas];omega) ?_;refine Ev.bind hpw ?_;rw[zbr];refine eP (by rw[zas,zas,List.length_append];simp at hpl;omega) ?_;rw[zbr,List.append_assoc,zfT];exact Ev.now _
  refine Ev.step (λk=>by simp only[za6.j0];rfl) ?_;unfold sciL;cases big with
  |true=>
   refine eP rfl ?_;refine eP (by decide) ?_;refine eP (by rw[zas];omega) ?_;exact fin [69] rfl
  |false=>
   refine eN (by simp) ?_;refine eP (by decide) ?_;refine eP (by rw[zas];omega) ?_;exact fin [101] rfl
 unfold za6.f;by_cases c:v=69
 ·refine eP c ?_;(have:bigV v=true:=by unfold bigV;rw[c];rfl);rw[this];exact key true
 ·refine eN c ?_;(have:bigV v=(v==71):=by unfold bigV;rw[beq_eq_false_iff_ne.mpr c];rfl);rw[this];exact key _
theorem zkr(l:List UInt8)(hl:l.length<=1000000):Ev (λk=>zbe.f k (S l)) (S (Lib.toUpperA l)):=by
 have one: ∀c:UInt8,(if(c.toNat:Int)>=97/\(c.toNat:Int)<=122 then((c.toNat:Int)-32)%256 else(c.toNat:Int))=((Lib.upperB c).toNat:Int):=by
  (have key: ∀i:Fin 256,(if(((UInt8.ofNat i.val).toNat:Nat):Int)>=97/\(((UInt8.ofNat i.val).toNat:Nat):Int)<=122 then((((UInt8.ofNat i.val).toNat:Nat):Int)-32)%256 else(((UInt8.ofNat i.val).toNat:Nat):Int))=((Lib.upperB (UInt8.ofNat i.val)).toNat:Int):=by decide+kernel);intro c;have:=key ⟨c.toNat,c.toNat_lt⟩;rwa [UInt8.ofNat_toNat] at this
 have loop: ∀(R P:List UInt8),(P++R).length<=1000000->Ev (λk=>zbe.l0 k (S (P++R)) (S (Lib.toUpperA P)) (P.length:Int)) (S (Lib.toUpperA (P++R))):=by
  intro R;induction R with
  |nil=>
   intro P hP;rw[List.append_nil];refine Ev.step (λk=>by simp only[zbe.l0];rfl) ?_;exact eN (by rw[zas];omega) (Ev.now _)
  |cons c R ih=>
   intro P hP;(have hlen:(P++c::R).length=P.length+(R.length+1):=by simp);have hb:bt (S (P++c::R)) (P.length:Int)=(c.toNat:Int):=by
    rw[bt_L (S (P++c::R)) P.length (by rw[zas,hlen];omega)];simp[L_S]
   have hu:(Lib.toUpperA P).length=P.length:=List.length_map _;have fin: ∀y:Int,y=((Lib.upperB c).toNat:Int)->Ev (λk=>(some (([y]:List Int):List Int)).bind λA=>(if(S (Lib.toUpperA P)).size+(strOfNums A).size<=9223372036854775807 then(zbe.l0 k (S (P++c::R)) ((S (Lib.toUpperA P))++(strOfNums A)) (wrap64 ((P.length:Int)+1))) else(none))) (S (Lib.toUpperA (P++c::R))):=by
    intro y hy;rw[hy];simp only[Option.bind_some];rw[zfd];refine eP (by rw[zas,zas,hu,List.length_singleton];omega) ?_;rw[zbr,w64 (x:=(P.length:Int)+1) (by omega) (by omega)];(have e1:Lib.toUpperA P++[Lib.upperB c]=Lib.toUpperA (P++[c]):=by unfold Lib.toUpperA;rw[List.map_append];rfl);(have e2:P++c::R=(P++[c])++R:=by simp);(have e3:(P.length:Int)+1=((P++[c]).length:Int):=by simp);rw[e1,e2,e3];exact ih (P++[c]) (by rw[<-e2];exact hP)
   refine Ev.step (λk=>by simp only[zbe.l0];rfl) ?_;refine eP (by rw[zas,hlen];omega) ?_;refine eP (by omega) ?_;rw[hb];have ho:=one c;by_cases c1:(c.toNat:Int)>=97
   ·refine eP c1 ?_;by_cases c2:(c.toNat:Int)<=122
    ·rw[if_pos ⟨c1,c2⟩] at ho;exact eP c2 (fin _ ho)
    ·rw[if_neg (λh=>c2 h.2)] at ho;exact eN c2 (fin _ ho)
   ·rw[if_neg (λh=>c1 h.1)] at ho;exact eN c1 (fin _ ho)
 exact loop l [] hl
def atN(l:List UInt8)(i:Int):UInt8:=if i<0 then 48 else l.getD i.toNat 48
def rowL(l:List UInt8):Int->Nat->List UInt8
  |_,0=>[]
  |i,n+1=>atN l i::rowL l (i+1) n
theorem zhP(l:List UInt8): ∀(n:Nat) (i:Int),(rowL l i n).length=n
 |0,_=>rfl
 |n+1,i=>by rw[rowL,List.length_cons,zhP l n]
theorem zeT(l:List UInt8)(K:Nat): ∀(n i:Nat),i+n<=l.length+K->rowL l (i:Int) n=((l++zsL K).drop i).take n
 |0,i,_=>by rw[rowL,List.take_zero]
 |n+1,i,h=>by
  have hi:i<(l++zsL K).length:=by rw[List.length_append,zbE];omega
  have ha:atN l (i:Int)=(l++zsL K)[i]:=by
   unfold atN;rw[if_neg (by omega),Int.toNat_natCast,List.getD_eq_getElem?_getD];by_cases c:i<l.length
   ·rw[List.getElem?_eq_getElem c,List.getElem_append_left c];rfl
   ·rw[List.getElem?_eq_none (by omega),List.getElem_append_right (by omega)];unfold zsL;rw[List.getElem_replicate];rfl
  rw[rowL,ha,List.drop_eq_getElem_cons hi,List.take_succ_cons]
  congr 1
  exact zeT l K n (i+1) (by omega)
theorem zhQ(l:List UInt8): ∀(j n:Nat),rowL l (-(j:Int)) (j+n)=zsL j++rowL l 0 n
 |0,n=>by rw[Nat.zero_add];rfl
 |j+1,n=>by
  rw[show j+1+n=(j+n)+1 by omega,rowL,show-((j+1:Nat):Int)+1= -(j:Int) by omega,zhQ l j n]
  have e:atN l (-((j+1:Nat):Int))=48:=by unfold atN;rw[if_pos (by omega)]
  rw[e]
  rfl
theorem zfU: ∀(n:Nat) (i:Int),rowL [] i n=zsL n
 |0,_=>rfl
 |n+1,i=>by
  rw[rowL,zfU n]
  have e:atN [] i=48:=by unfold atN;split<;>rfl
  rw[e]
  rfl
theorem zks(l:List UInt8){q x:Int}(hl:l.length<=1000000)(hq: -1000000<=q/\q<=1000000)(hx: -1000000<=x/\x<=1000000):zcj.f (S l) q x=some (S [atN l (q-1-x)]):=by
 unfold zcj.f atN;rw[w64 (x:=q-1) (by omega) (by omega),w64 (x:=q-1-x) (by omega) (by omega)];obtain⟨i,hi⟩: ∃i,q-1-x=i:=⟨_,rfl⟩;rw[hi];by_cases c:i<0
 ·rw[if_pos c,if_pos c];rfl
 ·rw[if_neg c,if_neg c];obtain⟨n,rfl⟩: ∃n:Nat,i=n:=⟨i.toNat,by omega⟩;rw[Int.toNat_natCast,zas];by_cases d:(n:Int)>=(l.length:Int)
  ·rw[if_pos d,List.getD_eq_getElem?_getD,List.getElem?_eq_none (by omega)];rfl
  ·have hn:n<l.length:=by omega
   rw[if_neg d,if_pos (by omega),w64 (x:=(n:Int)+1) (by omega) (by omega),if_pos (by omega),if_pos (by omega),show((n:Int)+1).toNat=n+1 by omega,<-S_L ((S l).extract n (n+1)),zdj,L_S,show n+1-n=1 by omega,
    List.drop_eq_getElem_cons hn,List.take_succ_cons,List.take_zero,List.getD_eq_getElem?_getD,List.getElem?_eq_getElem hn]
   rfl
def headL(l:List UInt8)(q:Int):List UInt8:=if firstL (l,q)+1<=0 then [48] else rowL l (q-1-firstL (l,q)) (firstL (l,q)+1).toNat
theorem zhR{l:List UInt8}{q:Int}(hl:l.length<=100000)(hq: -100000<=q/\q<=100000)(dot:Bool)(A:List UInt8)(hA:A.length<=200000){P:Nat}(hP:P<=100000): ∀(n:Nat) (acc:List UInt8),n<=P->acc.length+n<=200000->
 Ev (λk=>zaq.l1 k (P:Int) dot (S A) (S acc) ((P:Int)+1-n) (S l) q) (S (ptL dot A (acc++rowL l (q+P-n) n)))
 |0,acc,hn,ha=>by
  refine Ev.step (λk=>by simp only[zaq.l1];rfl) ?_
  refine eN (by omega) ?_
  rw[zff dot (by omega)]
  simp only[Option.bind_some]
  have h1:=zc0 dot A acc
  have h2:(S A).size+(S (ptB dot acc)).size=(ptL dot A acc).length:=by rw[zas,zas,<-List.length_append,zgb]
  refine eP (by rw[h2];omega) ?_
  rw[zbr,zgb,rowL,List.append_nil]
  exact Ev.now _
 |n+1,acc,hn,ha=>by
  refine Ev.step (λk=>by simp only[zaq.l1];rfl) ?_
  refine eP (by omega) ?_
  rw[w64 (x:= -((P:Int)+1-((n+1:Nat):Int))) (by omega) (by omega),zks l (by omega) (by omega) (by omega)]
  simp only[Option.bind_some]
  refine eP (by rw[zas,zas,List.length_singleton];omega) ?_
  rw[zbr,w64 (x:=(P:Int)+1-((n+1:Nat):Int)+1) (by omega) (by omega),show(P:Int)+1-((n+1:Nat):Int)+1=(P:Int)+1-n by omega]
  have h:=zhR hl hq dot A hA hP n (acc++[atN l (q-1- -((P:Int)+1-((n+1:Nat):Int)))]) (by omega) (by simp;omega)
  have e:acc++rowL l (q+P-((n+1:Nat):Int)) (n+1)=(acc++[atN l (q-1- -((P:Int)+1-((n+1:Nat):Int)))])++rowL l (q+P-n) n:=by
   rw[rowL,show q+(P:Int)-((n+1:Nat):Int)+1=q+P-n by omega,show q-1- -((P:Int)+1-((n+1:Nat):Int))=q+(P:Int)-((n+1:Nat):Int) by omega,List.append_assoc];rfl
  rw[e]
  exact h
theorem zhS{r:ByteArray}{l:List UInt8}{q:Int}(hl:l.length<=100000)(hq: -100000<=q/\q<=100000)(dot:Bool){P:Int}: ∀(n:Nat) (acc:List UInt8) (x:Int),x+1=n->n<=100000->acc.length+n<=200000->
 Ev (λk=>zaq.j1 k P dot (S (if acc++rowL l (q-1-x) n=[] then [48] else acc++rowL l (q-1-x) n)) (S []) (S l) q) r->
 Ev (λk=>zaq.l0 k P dot (S acc) (S []) x (S l) q) r
 |0,acc,x,hx,hn,ha,h=>by
  rw[rowL,List.append_nil] at h
  refine Ev.step (λk=>by simp only[zaq.l0];rfl) ?_
  refine eN (by omega) ?_
  by_cases c:acc=[]
  ·rw[if_pos c] at h
   exact eP ((zbD acc).2 c) h
  ·rw[if_neg c] at h
   exact eN (λe=>c ((zbD acc).1 e)) h
 |n+1,acc,x,hx,hn,ha,h=>by
  refine Ev.step (λk=>by simp only[zaq.l0];rfl) ?_
  refine eP (by omega) ?_
  rw[zks l (by omega) (by omega) (by omega)]
  simp only[Option.bind_some]
  refine eP (by rw[zas,zas,List.length_singleton];omega) ?_
  rw[zbr,w64 (x:=x-1) (by omega) (by omega)]
  refine zhS hl hq dot n (acc++[atN l (q-1-x)]) (x-1) (by omega) (by omega) (by simp;omega) ?_
  have e:acc++rowL l (q-1-x) (n+1)=(acc++[atN l (q-1-x)])++rowL l (q-1-(x-1)) n:=by
   rw[rowL,show q-1-x+1=q-1-(x-1) by omega,List.append_assoc];rfl
  rw[e] at h
  exact h
theorem zgq{l:List UInt8}{q:Int}(hl:l.length<=10000)(hq: -10000<=q/\q<=10000)(dot:Bool){P:Nat}(hP:P<=100000):
 Ev (λk=>zaq.f k (S l) q (P:Int) dot) (S (ptL dot (headL l q) (rowL l q P))):=by
 (have hf: -10001<=firstL (l,q)/\firstL (l,q)<=10000:=by unfold firstL;split<;>omega);unfold zaq.f;rw[zeS l (by omega)];simp only[Option.bind_some];show Ev (λk=>zaq.l0 k (P:Int) dot (S []) (S []) (firstL (l,q)) (S l) q) _;have fin: ∀A:List UInt8,A.length<=200000->Ev (λk=>zaq.j1 k (P:Int) dot (S A) (S []) (S l) q) (S (ptL dot A (rowL l q P))):=by
  intro A hA;refine Ev.step (λk=>by simp only[zaq.j1];rfl) ?_;have h:=zhR (l:=l) (q:=q) (by omega) (by omega) dot A hA hP P [] (Nat.le_refl _) (by simp;omega);rw[show(P:Int)+1-(P:Int)=1 by omega,show q+(P:Int)-(P:Int)=q by omega,List.nil_append] at h;exact h
 unfold headL;generalize firstL (l,q)=x at*
 by_cases c:x+1<=0
 ·rw[if_pos c];refine Ev.step (λk=>by simp only[zaq.l0];rfl) ?_;refine eN (by omega) ?_;refine eP ((zbD []).2 rfl) ?_;exact fin [48] (by decide)
 ·rw[if_neg c];refine zhS (by omega) (by omega) dot (x+1).toNat [] x (by omega) (by omega) (by simp;omega) ?_;have hr:=zhP l (x+1).toNat (q-1-x);rw[List.nil_append,if_neg (λe=>by rw[e] at hr;simp at hr;omega)];exact fin _ (by omega)
theorem zhT{l:List UInt8}{n:Nat}(h:l.length<=n):l.take n=l:=List.take_of_length_le h
theorem zgc{l:List UInt8}{q:Int}(hn:l≠[])(dot:Bool)(z:Nat):ptL dot (headL l q) (rowL l q (((l.length+z:Nat):Int)-q).toNat)=aroundL dot (l++zsL z) q:=by
 unfold headL aroundL firstL;rw[if_neg hn];(have hlen:(l++zsL z).length=l.length+z:=by rw[List.length_append,zbE]);by_cases c:q<=0
 ·rw[if_pos (by omega),if_pos c];congr 1;obtain⟨j,hj⟩: ∃j:Nat,q= -(j:Int):=⟨(-q).toNat,by omega⟩;subst hj;rw[show(((l.length+z:Nat):Int)- -(j:Int)).toNat=j+(l.length+z) by omega,zhQ,show(- -(j:Int)).toNat=j by omega];congr 1;have h:=zeT l z (l.length+z) 0 (by omega);rw[show((0:Nat):Int)=0 from rfl,List.drop_zero,zhT (by omega)] at h;exact h
 ·rw[if_neg (by omega),if_neg c];obtain⟨j,hj⟩: ∃j:Nat,q=(j:Int):=⟨q.toNat,by omega⟩;subst hj;rw[show(j:Int)-1-((j:Int)-1)=((0:Nat):Int) by omega,show((j:Int)-1+1).toNat=j by omega,Int.toNat_natCast];have hM:fillL (l++zsL z) (j:Int)=l++zsL (z+(j-(l.length+z))):=by
   unfold fillL;rw[hlen,List.append_assoc];congr 1;unfold zsL;rw[List.replicate_append_replicate];congr 1;omega
  (have hMl:(l++zsL (z+(j-(l.length+z)))).length=l.length+(z+(j-(l.length+z))):=by rw[List.length_append,zbE]);have h1:=zeT l (z+(j-(l.length+z))) j 0 (by omega);rw[List.drop_zero] at h1;have h2:=zeT l (z+(j-(l.length+z))) (((l.length+z:Nat):Int)-(j:Int)).toNat j (by omega);rw[h1,h2,hM];congr 1;refine zhT ?_;rw[List.length_drop,hMl];omega
theorem ziG(q:Int)(dot:Bool)(P:Nat):ptL dot (headL [] q) (rowL [] q P)=ptL dot [48] (zsL P):=by
 unfold headL firstL;rw[if_pos rfl,if_neg (by decide),zfU,zfU];rfl
def HexD(c:UInt8):Prop:=(48<=c.toNat/\c.toNat<=57)\/(97<=c.toNat/\c.toNat<=102)
def AllH(l:List UInt8):Prop:= ∀c∈l,HexD c
def hd(c:UInt8):Nat:=if c.toNat<=57 then c.toNat-48 else c.toNat-87
theorem znL{c:UInt8}(h:HexD c):hd c<16:=by
 unfold hd;unfold HexD at h;split<;>omega
def hvF(a:Nat):List UInt8->Nat
  |[]=>a
  |c::l=>hvF (16*a+hd c) l
theorem zgr: ∀(l:List UInt8) (a:Nat),hvF a l=a*16^l.length+hvF 0 l
 |[],a=>by simp[hvF]
 |c::l,a=>by
  rw[hvF,zgr l,hvF,zgr l (16*0+hd c),List.length_cons,Nat.pow_succ]
  generalize 16^l.length=y
  generalize hvF 0 l=z
  rw[Nat.mul_zero,Nat.zero_add,Nat.add_mul,Nat.mul_comm 16 a,Nat.mul_assoc,Nat.mul_comm 16 y]
  omega
theorem ziH: ∀(l b:List UInt8) (a:Nat),hvF a (l++b)=hvF (hvF a l) b
 |[],b,a=>rfl
 |c::l,b,a=>by rw[List.cons_append,hvF,hvF,ziH l]
theorem zfg{n:Nat}(h:n<16):hd (dch n)=n/\HexD (dch n):=by
 unfold hd dch HexD;by_cases c:n<10
 ·rw[if_pos c,UInt8.toNat_ofNat'];rw[Nat.mod_eq_of_lt (by omega),if_pos (by omega)];exact⟨by omega,.inl ⟨by omega,by omega⟩⟩
 ·rw[if_neg c,UInt8.toNat_ofNat'];rw[Nat.mod_eq_of_lt (by omega),if_neg (by omega)];exact⟨by omega,.inr ⟨by omega,by omega⟩⟩
theorem zlK: ∀k n,n<16^(k+1)->hvF 0 (bF 16 k n)=n
 |0,n,h=>by
  show 16*0+hd (dch (n%16))=n
  rw[(zfg (Nat.mod_lt _ (by decide))).1]
  simp at h
  omega
 |k+1,n,h=>by
  have hm:=(zfg (Nat.mod_lt n (show 0<16 by decide))).1
  unfold bF
  split
  ·show 16*0+hd (dch (n%16))=n
   rw[hm]
   omega
  ·rw[ziH,zlK k (n / 16) (by rw[Nat.pow_succ] at h;omega)]
   show 16*(n / 16)+hd (dch (n%16))=n
   rw[hm]
   omega
theorem ziI: ∀k n,AllH (bF 16 k n)
 |0,n=>λc hc=>by
  rw[bF,List.mem_singleton] at hc
  rw[hc]
  exact(zfg (Nat.mod_lt _ (by decide))).2
 |k+1,n=>λc hc=>by
  unfold bF at hc
  split at hc
  ·rw[List.mem_singleton] at hc
   rw[hc]
   exact(zfg (Nat.mod_lt _ (by decide))).2
  ·rcases List.mem_append.1 hc with hc|hc
   ·exact ziI k _ c hc
   ·rw[List.mem_singleton] at hc
    rw[hc]
    exact(zfg (Nat.mod_lt _ (by decide))).2
theorem zgd: ∀(f m:Nat),m≠0->m<2^f->1<=Lib.bitLenAux f m/\2^(Lib.bitLenAux f m-1)<=m/\m<2^Lib.bitLenAux f m
 |0,m,h0,h=>by simp at h;omega
 |f+1,m,h0,h=>by
  unfold Lib.bitLenAux
  rw[if_neg h0]
  by_cases c:m / 2=0
  ·have:m=1:=by omega
   subst this
   have:Lib.bitLenAux f (1 / 2)=0:=by cases f<;>rfl
   rw[this]
   decide
  ·obtain⟨h1,h2,h3⟩:=zgd f (m / 2) c (by rw[Nat.pow_succ] at h;omega)
   generalize Lib.bitLenAux f (m / 2)=q at*
   obtain⟨r,rfl⟩: ∃r,q=r+1:=⟨q-1,by omega⟩
   rw[show r+1-1=r by omega] at h2
   rw[show 1+(r+1)-1=r+1 by omega,show 1+(r+1)=r+1+1 by omega,Nat.pow_succ 2 (r+1)]
   rw[Nat.pow_succ] at h3 ⊢
   generalize 2^r=y at*
   omega
def padH:Nat->Nat->List UInt8
  |0,_=>[]
  |k+1,n=>padH k (n / 16)++[dch (n%16)]
theorem zc6: ∀k n,(padH k n).length=k
 |0,_=>rfl
 |k+1,n=>by rw[padH,List.length_append,zc6 k,List.length_singleton]
theorem ziJ(k:Nat):zsL k++[48]=zsL (k+1):=by unfold zsL;rw[List.replicate_succ']
theorem zfh: ∀k,padH k 0=zsL k
 |0=>rfl
 |k+1=>by
  rw[padH,Nat.zero_div,zfh k]
  exact ziJ k
theorem zfr: ∀(f k n:Nat),1<=k->k<=f+1->n<16^k->zsL (k-(bF 16 f n).length)++bF 16 f n=padH k n
 |0,k,n,h1,h2,h=>by
  obtain rfl:k=1:=by omega
  rfl
 |f+1,k,n,h1,h2,h=>by
  obtain⟨q,rfl⟩: ∃q,k=q+1:=⟨k-1,by omega⟩
  rw[padH]
  unfold bF
  by_cases c:n / 16=0
  ·rw[if_pos c,c,zfh,List.length_singleton,Nat.add_sub_cancel]
  ·rw[if_neg c,List.length_append,List.length_singleton,<-List.append_assoc,show q+1-((bF 16 f (n / 16)).length+1)=q-(bF 16 f (n / 16)).length by omega]
   have hq:1<=q:=by
    cases q with
    |zero=>rw[Nat.pow_one] at h;omega
    |succ q=>omega
   rw[Nat.pow_succ] at h
   rw[zfr f q (n / 16) hq (by omega) (by omega)]
theorem zfV(a n:Nat): ∀b,padH (a+b) (n*16^b)=padH a n++zsL b
 |0=>by rw[Nat.pow_zero,Nat.mul_one];exact(List.append_nil _).symm
 |b+1=>by
  have e1:n*16^(b+1) / 16=n*16^b:=by rw[Nat.pow_succ,<-Nat.mul_assoc];exact Nat.mul_div_cancel _ (by decide)
  have e2:n*16^(b+1)%16=0:=by rw[Nat.pow_succ,<-Nat.mul_assoc];exact Nat.mul_mod_left _ _
  show padH (a+b+1) (n*16^(b+1))=_
  rw[padH,e1,e2,zfV a n b,List.append_assoc]
  exact congrArg _ (ziJ b)
theorem zfW{n:Nat}(hn:n<=18446744073709551615):sixL n=padH 16 n:=zfr 63 16 n (by decide) (by decide) (Nat.lt_of_le_of_lt hn (by decide))
theorem zkt: ∀(l:List UInt8),AllH l->hvF 0 l<16^l.length
 |[],_=>by decide
 |c::l,h=>by
  have hc:=znL (h c (by simp))
  have ih:=zkt l (λx hx=>h x (by simp[hx]))
  rw[hvF,zgr,List.length_cons,Nat.pow_succ]
  generalize 16^l.length=y at*
  have:(16*0+hd c)*y<=15*y:=Nat.mul_le_mul_right _ (by omega)
  omega
theorem zmF{n p:Nat}(hn:n<=18446744073709551615)(h:16^p<=n):p<(bT 16 n).length:=by
 refine Classical.byContradiction λc=>?_;have h1:=zkt (bT 16 n) (ziI 63 n);have h2:hvF 0 (bT 16 n)=n:=zlK 63 n (Nat.lt_of_le_of_lt hn (by decide));have h3:16^(bT 16 n).length<=16^p:=Nat.pow_le_pow_right (by decide) (by omega);omega
theorem ziK{lead s:List UInt8}(hl:lead.length<=10)(hs:s.length<=5000){x:Int}(hx: -100000<=x/\x<=100000)(dot:Bool):
 Ev (λk=>((zaL.f (S s) dot).bind λA=>(if((⟨#[48,120]⟩:ByteArray)++S lead).size+A.size<=9223372036854775807 then(if(((⟨#[48,120]⟩:ByteArray)++S lead)++A).size+1<=9223372036854775807 then((zaK.f k x 2).bind λB=>(if((((⟨#[48,120]⟩:ByteArray)++S lead)++A)++(⟨#[112]⟩:ByteArray)).size+B.size<=9223372036854775807 then(some (((((⟨#[48,120]⟩:ByteArray)++S lead)++A)++(⟨#[112]⟩:ByteArray))++B)) else(none))) else(none)) else(none)))) (S (hexEnd dot false lead s x)):=by
 have hpl:=zcV [] (e:=x) (least:=2) (by decide);(have hb:(ptB dot s).length<=s.length+1:=by unfold ptB;split<;>simp);rw[zff dot (by omega),show(⟨#[48,120]⟩:ByteArray)=S [48,120] from rfl,show(⟨#[112]⟩:ByteArray)=S [112] from rfl];simp only[Option.bind_some];rw[zbr];(have h1:([48,120]++lead).length=lead.length+2:=by simp);refine eP (by rw[zas,zas,h1];omega) ?_;rw[zbr];(have h2:(([48,120]++lead)++ptB dot s).length=lead.length+2+(ptB dot s).length:=by rw[List.length_append,h1]);refine eP (by rw[zas,h2];omega) ?_;refine Ev.bind (zfe hx (by decide)) ?_;rw[zbr];(have h3:((([48,120]++lead)++ptB dot s)++[112]).length=lead.length+2+(ptB dot s).length+1:=by rw[List.length_append,h2];rfl);refine eP (by rw[zas,zas,h3];simp at hpl;omega) ?_;rw[zbr];have e:((([48,120]++lead)++ptB dot s)++[112])++powL [] x 2=hexEnd dot false lead s x:=by
  unfold hexEnd;rw[if_neg (by simp),<-zgb,<-zfT [112]];simp only[List.append_assoc]
 rw[e];exact Ev.now _
theorem zeU{lead s:List UInt8}(hl:lead.length<=10)(hs:s.length<=5000){x:Int}(hx: -100000<=x/\x<=100000)(dot:Bool):
 Ev (λk=>(if 2+(S lead).size<=9223372036854775807 then((zaL.f (S s) dot).bind λA=>(if((⟨#[48,120]⟩:ByteArray)++S lead).size+A.size<=9223372036854775807 then(if(((⟨#[48,120]⟩:ByteArray)++S lead)++A).size+1<=9223372036854775807 then((zaK.f k x 2).bind λB=>(if((((⟨#[48,120]⟩:ByteArray)++S lead)++A)++(⟨#[112]⟩:ByteArray)).size+B.size<=9223372036854775807 then(some (((((⟨#[48,120]⟩:ByteArray)++S lead)++A)++(⟨#[112]⟩:ByteArray))++B)) else(none))) else(none)) else(none))) else(none))) (S (hexEnd dot false lead s x)):=
 eP (by rw[zas];omega) (ziK hl hs hx dot)
theorem zgT{lead:List UInt8}(hl:lead.length<=10){x:Int}(hx: -100000<=x/\x<=100000)(dot:Bool): ∀(n:Nat) (s:List UInt8),s.length=n->n<=5000->
 Ev (λk=>zag.l1 k dot (S lead) x (S s)) (S (hexEnd dot false lead (rz s) x))
 |0,s,hs,_=>by
  obtain rfl:=List.eq_nil_of_length_eq_zero hs
  refine Ev.step (λk=>by simp only[zag.l1];rfl) ?_
  refine eP ((zbD []).2 rfl) ?_
  exact zeU hl (by decide) hx dot
 |n+1,s,hs,hn=>by
  rcases List.eq_nil_or_concat s with e|⟨t,c,e⟩
  ·rw[e] at hs;cases hs
  rw[List.concat_eq_append] at e
  subst e
  have hlen:(t++[c]).length=t.length+1:=by simp
  have hw:wrap64 (((S (t++[c])).size:Int)-1)=(t.length:Int):=by rw[zas,hlen,w64 (by omega) (by omega)];omega
  refine Ev.step (λk=>by simp only[zag.l1];rfl) ?_
  refine eN (λe=>by rw[zbD] at e;simp at e) ?_
  rw[hw]
  refine eP (by omega) ?_
  refine eP (by rw[zas,hlen];omega) ?_
  have hb:bt (S (t++[c])) (t.length:Int)=(c.toNat:Int):=by
   rw[bt_L (S (t++[c])) t.length (by rw[zas,hlen];omega)];simp[L_S]
  rw[hb]
  by_cases d:c.toNat=48
  ·refine eP (by omega) ?_
   refine eP (by rw[zas,hlen];omega) ?_
   rw[Int.toNat_natCast,zcE,List.take_left' rfl,zcH d]
   exact zgT hl hx dot n t (by omega) (by omega)
  ·refine eN (by omega) ?_
   rw[zc8 d]
   exact zeU hl (by omega) hx dot
def refUp(lead:List UInt8)(part p:Nat):Prop:=
  16^(15-p)<2*(part%16^(15-p))\/(2*(part%16^(15-p))=16^(15-p)/\(if p=0 then lead=[49] else part / 16^(15-p)%2=1))
theorem zmG{lead:List UInt8}{part p:Nat}(hp:p<15)(hpart:part<16^15):refUp lead part p↔hexUp lead (16*part) p:=by
 (have hU:(16:Nat)^(15-p)*16^(p+1)=18446744073709551616:=by rw[<-Nat.pow_add,show 15-p+(p+1)=16 by omega]);have hC:0<(16:Nat)^(p+1):=Nat.pow_pos (by decide);have e1:16*part*2^(4*p)%18446744073709551616=part%16^(15-p)*16^(p+1):=by
  rw[<-hU,<-Nat.mul_mod_mul_right];congr 1;rw[Nat.pow_mul,show(2:Nat)^4=16 by decide,Nat.pow_succ,Nat.mul_comm 16 part,Nat.mul_assoc,Nat.mul_comm 16]
 have e2:16*part / 2^(64-4*p)=part / 16^(15-p):=by
  rw[show 64-4*p=4*(16-p) by omega,Nat.pow_mul,show(2:Nat)^4=16 by decide,show 16-p=15-p+1 by omega,Nat.pow_succ,Nat.mul_comm 16 part];exact Nat.mul_div_mul_right _ _ (by decide)
 unfold refUp hexUp;rw[e1,e2];have A:p=0->part / 16^(15-p)%2=0:=by
  intro h;subst h;rw[Nat.div_eq_of_lt hpart]
 generalize 16^(15-p)=U at*
 generalize part%U=r at*
 generalize part / U=K at*
 generalize 16^(p+1)=C at*
 have h1:U<2*r↔9223372036854775808<r*C:=by
  constructor
  ·intro h;have:(U+1)*C<=(2*r)*C:=Nat.mul_le_mul_right _ h;rw[Nat.add_mul,Nat.mul_assoc] at this;omega
  ·intro h;refine Classical.byContradiction λc=>?_;have:(2*r)*C<=U*C:=Nat.mul_le_mul_right _ (by omega);rw[Nat.mul_assoc] at this;omega
 have h2:2*r=U↔r*C=9223372036854775808:=by
  constructor
  ·intro h;rw[<-h,Nat.mul_assoc] at hU;omega
  ·intro h;(have:(2*r)*C=U*C:=by rw[Nat.mul_assoc];omega);exact Nat.eq_of_mul_eq_mul_right hC this
 rw[h1,h2];by_cases c:p=0
 ·rw[if_pos c,A c];simp[c]
 ·rw[if_neg c];simp[c]
theorem zi8{lead:List UInt8}{part p K:Nat}(hp:p<15)(hpart:part<16^15)(hK:K=part / 16^(15-p)+(if hexUp lead (16*part) p then 1 else 0))(dot:Bool)(x:Int):
 K<=16^p/\hexMid dot false lead (16*part) p x=hexEnd dot false lead (if p=0 then [] else if K=16^p then zsL p else padH p K) (if K=16^p then x+1 else x):=by
 have e2:16*part / 2^(64-4*p)=part / 16^(15-p):=by
  rw[show 64-4*p=4*(16-p) by omega,Nat.pow_mul,show(2:Nat)^4=16 by decide,show 16-p=15-p+1 by omega,Nat.pow_succ,Nat.mul_comm 16 part];exact Nat.mul_div_mul_right _ _ (by decide)
 have hlt:part / 16^(15-p)<16^p:=by
  refine Nat.div_lt_of_lt_mul ?_;rw[<-Nat.pow_add,show 15-p+p=15 by omega];exact hpart
 have hk:hexKept lead (16*part) p=K:=by
  unfold hexKept;rw[e2,hK];split<;>rfl
 (have hKle:K<=16^p:=by rw[hK];split<;>omega);refine⟨hKle,?_⟩;(have hP:(2:Nat)^(4*p)=16^p:=by rw[Nat.pow_mul]);have A:0<(16:Nat)^p:=Nat.pow_pos (by decide);(have hQ:(2:Nat)^(64-4*p)=16^(16-p):=by rw[show 64-4*p=4*(16-p) by omega,Nat.pow_mul]);unfold hexMid;dsimp only;rw[hk,hP,hQ];by_cases c:K=16^p
 ·(have ho:0<K / 16^p:=by rw[c,Nat.div_self A];exact Nat.one_pos);rw[if_pos ho,if_pos ho,if_pos c,if_pos c,zfW (by decide),zfh];by_cases d:p=0
  ·rw[if_pos d,if_pos d]
  ·rw[if_neg d,if_neg d];unfold zsL;rw[List.take_replicate,show min p 16=p by omega]
 ·have hz:K / 16^p=0:=Nat.div_eq_of_lt (by omega);rw[hz,if_neg (Nat.lt_irrefl 0),if_neg (Nat.lt_irrefl 0),if_neg c,if_neg c];by_cases d:p=0
  ·rw[if_pos d,if_pos d]
  ·rw[if_neg d,if_neg d];have hm:K*16^(16-p)<18446744073709551616:=by
    have h1:K*16^(16-p)<16^p*16^(16-p):=Nat.mul_lt_mul_of_pos_right (by omega) (Nat.pow_pos (by decide));rw[<-Nat.pow_add,show p+(16-p)=16 by omega] at h1;exact h1
   have h:=zfV p K (16-p);rw[show p+(16-p)=16 by omega] at h;rw[Nat.mod_eq_of_lt hm,zfW (by omega),h,List.take_left' (zc6 p K)]
theorem zku{lead:List UInt8}(hlead:lead=[48]\/lead=[49]){part p:Nat}(hp:p<15)(hpart:part<1152921504606846976){x:Int}(hx: -90000<=x/\x<=90000)(dot:Bool):
 Ev (λk=>zag.l2 k (p:Int) dot (S lead) x (part:Int) 1 (p:Int)) (S (hexMid dot false lead (16*part) p x)):=by
 (have hl:lead.length<=10:=by rcases hlead with rfl|rfl<;>decide);have A:part<16^15:=Nat.lt_of_lt_of_le hpart (by decide);have D:0<(16:Nat)^(15-p):=Nat.pow_pos (by decide);have J:(16:Nat)^(15-p)<=1152921504606846976:=Nat.le_trans (Nat.pow_le_pow_right (by decide) (Nat.sub_le 15 p)) (by decide);obtain⟨K,hK⟩: ∃K,K=part / 16^(15-p)+(if hexUp lead (16*part) p then 1 else 0):=⟨_,rfl⟩;obtain⟨hKle,hmid⟩:=zi8 (lead:=lead) hp A hK dot x;have I:(16:Nat)^p<=1152921504606846976:=Nat.le_trans (Nat.pow_le_pow_right (by decide) (show p<=15 by omega)) (by decide);have j6:Ev (λk=>zag.j6 k (p:Int) dot (S lead) x (K:Int)) (S (hexMid dot false lead (16*part) p x)):=by
  have hb:=zd5 16 K;refine Ev.step (λk=>by simp only[zag.j6];rfl) ?_;refine Ev.bind (zdU (b:=16) (.inr rfl) (n:=K) (by omega)) ?_;refine Ev.bind (zeQ (bT 16 K) (p:Int) (by omega)) ?_;rw[hmid];have j8: ∀s:List UInt8,s.length<=100->Ev (λk=>zag.j8 k (p:Int) dot (S lead) x (S s)) (S (if p<s.length then hexEnd dot false lead (zsL p) (x+1) else hexEnd dot false lead s x)):=by
   intro s hs;refine Ev.step (λk=>by simp only[zag.j8];rfl) ?_;by_cases c:p<s.length
   ·rw[if_pos c];refine eP (by rw[zas];omega) ?_;have hz:=zeR (p:Int) (by omega);rw[Int.toNat_natCast] at hz;refine Ev.bind hz ?_;rw[w64 (x:=x+1) (by omega) (by omega)];exact zeU hl (by rw[zbE];omega) (by omega) dot
   ·rw[if_neg c];refine eN (by rw[zas];omega) ?_;exact zeU hl (by omega) (by omega) dot
  have B: ∀s:List UInt8,s.length<=100->Ev (λk=>zag.j7 k (p:Int) dot (S lead) x (S s) false) (S (if p<s.length then hexEnd dot false lead (zsL p) (x+1) else hexEnd dot false lead s x)):=by
   intro s hs;refine Ev.step (λk=>by simp only[zag.j7];rfl) ?_;exact eN (by simp) (j8 s hs)
  (have hzl:(zsL ((p:Int)-((bT 16 K).length:Int)).toNat++bT 16 K).length<=100:=by rw[List.length_append,zbE];omega);by_cases c:K=16^p
  ·have hlong:=zmF (n:=K) (p:=p) (by omega) (by omega);have h2:=B _ hzl;rw[if_pos (by rw[List.length_append,zbE];omega)] at h2;rw[if_pos c,if_pos c];have e:(if p=0 then [] else zsL p)=zsL p:=by
    by_cases d:p=0
    ·rw[if_pos d,d];rfl
    ·rw[if_neg d]
   rw[e];by_cases d:p=0
   ·refine eP (by omega) ?_;rw[show((K:Int)==0)=false from beq_eq_false_iff_ne.mpr (by subst d;omega)];exact h2
   ·exact eN (by omega) h2
  ·rw[if_neg c,if_neg c];by_cases d:p=0
   ·subst d;(have E:K=0:=by omega);refine eP (by omega) ?_;rw[E,if_pos rfl];refine Ev.step (λk=>by simp only[zag.j7];rfl) ?_;refine eP (by decide) ?_;exact j8 [] (by decide)
   ·refine eN (by omega) ?_;have hpd:=zfr 63 p K (by omega) (by omega) (by omega);have hbs:(bT 16 K).length<=p:=by
     have:=zeK 16 63 K (p-1) (by rw[show p-1+1=p by omega];omega);show(bF 16 63 K).length<=p;omega
    have e:zsL ((p:Int)-((bT 16 K).length:Int)).toNat++bT 16 K=padH p K:=by
     rw[<-hpd,show((p:Int)-((bT 16 K).length:Int)).toNat=p-(bT 16 K).length by omega];rfl
    have h2:=B _ hzl;rw[e,zc6,if_neg (Nat.lt_irrefl p)] at h2;rw[e,if_neg d];exact h2
 have j5: ∀u:Bool,u=decide (hexUp lead (16*part) p)->Ev (λk=>zag.j5 k (p:Int) dot (S lead) x ((part / 16^(15-p):Nat):Int) u) (S (hexMid dot false lead (16*part) p x)):=by
  intro u hu;have hd:part / 16^(15-p)<=part:=Nat.div_le_self _ _;refine Ev.step (λk=>by simp only[zag.j5];rfl) ?_;by_cases c:hexUp lead (16*part) p
  ·rw[hu,decide_eq_true c];rw[if_pos c] at hK;refine eP rfl ?_;rw[show((part / 16^(15-p):Nat):Int)+1=(K:Int) by omega,u64c K (by omega)];exact j6
  ·rw[hu,decide_eq_false c];rw[if_neg c,Nat.add_zero] at hK;refine eN (by simp) ?_;rw[<-hK];exact j6
 have j4: ∀o:Bool,o=decide (if p=0 then lead=[49] else part / 16^(15-p)%2=1)->Ev (λk=>zag.j4 k (p:Int) dot (S lead) x ((16^(15-p):Nat):Int) ((part / 16^(15-p):Nat):Int) ((part%16^(15-p):Nat):Int) o) (S (hexMid dot false lead (16*part) p x)):=by
  intro o ho;have hup:=zmG (lead:=lead) hp A;have hm:=Nat.mod_lt part D;have hw:IntKind.u64.wrap (2*((part%16^(15-p):Nat):Int))=((2*(part%16^(15-p)):Nat):Int):=by
   rw[show 2*((part%16^(15-p):Nat):Int)=((2*(part%16^(15-p)):Nat):Int) by omega];exact u64c _ (by omega)
  refine Ev.step (λk=>by simp only[zag.j4];rfl) ?_;rw[hw];unfold refUp at hup;by_cases c1:16^(15-p)<2*(part%16^(15-p))
  ·refine eP (by omega) ?_;exact j5 true (by rw[eq_comm];exact decide_eq_true (hup.1 (.inl c1)))
  ·refine eN (by omega) ?_;by_cases c2:2*(part%16^(15-p))=16^(15-p)
   ·refine eP (by omega) ?_;refine j5 o ?_;rw[ho];exact decide_eq_decide.2 ⟨λh=>hup.1 (.inr ⟨c2,h⟩),λh=>(hup.2 h).elim (λh=>absurd h c1) (λh=>h.2)⟩
   ·refine eN (by omega) ?_;exact j5 false (by rw[eq_comm];exact decide_eq_false (λh=>(hup.2 h).elim c1 (λh=>c2 h.1)))
 have loop: ∀(j i:Nat),p+i+j=15->Ev (λk=>zag.l2 k (p:Int) dot (S lead) x (part:Int) ((16^i:Nat):Int) ((p+i:Nat):Int)) (S (hexMid dot false lead (16*part) p x)):=by
  intro j;induction j with
  |zero=>
   intro i hi;(have hip:i=15-p:=by omega);subst hip;have hd:part / 16^(15-p)<=part:=Nat.div_le_self _ _;refine Ev.step (λk=>by simp only[zag.l2];rfl) ?_;refine eN (by omega) ?_;refine eN (by omega) ?_;have ht:Int.tdiv (part:Int) ((16^(15-p):Nat):Int)=((part / 16^(15-p):Nat):Int):=rfl;rw[tmodN,ht,u64c _ (by omega)];by_cases c:p=0
   ·refine eP (by omega) ?_;refine j4 _ ?_;rw[zbn,L_S,Bool.eq_iff_iff,beq_iff_eq,decide_eq_true_iff,if_pos c]
   ·refine eN (by omega) ?_;refine j4 _ ?_;rw[show Int.tmod ((part / 16^(15-p):Nat):Int) 2=((part / 16^(15-p)%2:Nat):Int) from tmodN _ 2,Bool.eq_iff_iff,beq_iff_eq,decide_eq_true_iff,if_neg c];omega
  |succ j ih=>
   intro i hi;have M:(16:Nat)^(i+1)<=1152921504606846976:=Nat.le_trans (Nat.pow_le_pow_right (by decide) (show i+1<=15 by omega)) (by decide);refine Ev.step (λk=>by simp only[zag.l2];rfl) ?_;refine eP (by omega) ?_;have e1:IntKind.u64.wrap (16*((16^i:Nat):Int))=((16^(i+1):Nat):Int):=by
    rw[show 16*((16^i:Nat):Int)=((16^(i+1):Nat):Int) by rw[Nat.pow_succ];omega];exact u64c _ (by omega)
   rw[e1,w64 (x:=((p+i:Nat):Int)+1) (by omega) (by omega),show((p+i:Nat):Int)+1=((p+(i+1):Nat):Int) by omega];exact ih (i+1) (by omega)
 exact loop (15-p) 0 (by omega)
theorem zgs{part:Nat}(hpart:part<1152921504606846976):sixL (16*part)=padH 15 part++[48]:=by
 have h:=zfV 15 part 1;rw[Nat.pow_one,Nat.mul_comm] at h;rw[zfW (by omega)];exact h
theorem znM(lead:List UInt8){part:Nat}(hpart:part<1152921504606846976)(x:Int)(dot:Bool):hexMid dot false lead (16*part) 15 x=hexEnd dot false lead (padH 15 part) x:=by
 (have A:(2:Nat)^(4*15)=1152921504606846976:=by decide);(have e4:(2:Nat)^(64-4*15)=16:=by decide);have hu: ¬hexUp lead (16*part) 15:=by
  unfold hexUp;rw[A];(have:16*part*1152921504606846976%18446744073709551616=0:=by omega);rw[this];rintro(h|h)
  ·exact absurd h (by decide)
  ·exact absurd h.1 (by decide)
 have hk:hexKept lead (16*part) 15=part:=by
  unfold hexKept;rw[if_neg hu,e4];omega
 (have hz:part / 1152921504606846976=0:=by omega);(have hm:part*16%18446744073709551616=16*part:=by omega);unfold hexMid;dsimp only;rw[hk,A,e4,hz,hm,if_neg (Nat.lt_irrefl 0),if_neg (Nat.lt_irrefl 0),if_neg (show¬(15:Nat)=0 by decide),zgs hpart,List.take_left' (zc6 15 part)]
theorem zlw{part:Nat}(hpart:part<1152921504606846976):(zsL ((15:Int)-((bT 16 part).length:Int)).toNat++bT 16 part)=padH 15 part/\(bT 16 part).length<=15:=by
 have A:part<16^15:=Nat.lt_of_lt_of_le hpart (by decide);have hbs:(bT 16 part).length<=15:=zeK 16 63 part 14 A;refine⟨?_,hbs⟩;have h:=zfr 63 15 part (by decide) (by decide) A;rw[show((15:Int)-((bT 16 part).length:Int)).toNat=15-(bT 16 part).length by omega];exact h
theorem zlx{part:Nat}(hpart:part<1152921504606846976){prec:Int}(h:prec>=16):fillL (sixL (16*part)) prec=padH 15 part++zsL (prec-15).toNat:=by
 obtain⟨j,hj⟩: ∃j:Nat,prec=j+16:=⟨(prec-16).toNat,by omega⟩;rw[zgs hpart];unfold fillL;rw[List.length_append,zc6,List.length_singleton,List.append_assoc,show(prec-((15+1:Nat):Int)).toNat=j by omega,show(prec-15).toNat=j+1 by omega,show [48]++zsL j=zsL (j+1) from rfl]
theorem zi9{lead:List UInt8}{part:Nat}(hpart:part<1152921504606846976){x prec:Int}(hq:15<=prec)(dot:Bool):
 (if prec>=16 then hexEnd dot false lead (fillL (sixL (16*part)) prec) x else hexMid dot false lead (16*part) prec.toNat x)=hexEnd dot false lead (padH 15 part++zsL (prec-15).toNat) x:=by
 by_cases c3:prec>=16
 ·rw[if_pos c3,zlx hpart c3]
 ·rw[if_neg c3,show prec.toNat=15 by omega,show(prec-15).toNat=0 by omega,znM lead hpart,show zsL 0=[] from rfl,List.append_nil]
theorem zgU{lead:List UInt8}(hlead:lead=[48]\/lead=[49]){part:Nat}(hpart:part<1152921504606846976){x:Int}(hx: -80000<=x/\x<=80000){prec:Int}(hq: -1<=prec/\prec<=1000)(dot:Bool):
 Ev (λk=>zag.j1 k prec dot (S lead) x (part:Int)) (S (hexTail dot false lead (16*part) x prec)):=by
 (have hl:lead.length<=10:=by rcases hlead with rfl|rfl<;>decide);obtain⟨hpd,hbs⟩:=zlw hpart;have h1:=zdU (b:=16) (.inr rfl) (n:=part) (by omega);have h2:=zeQ (bT 16 part) 15 (by omega);rw[hpd] at h2;clear hpd;refine Ev.step (λk=>by simp only[zag.j1];rfl) ?_;refine Ev.bind h1 ?_;refine Ev.bind h2 ?_;clear h1 h2;unfold hexTail;by_cases c1:prec<0
 ·rw[if_pos c1];refine eP c1 ?_;have hr:rz (sixL (16*part))=rz (padH 15 part):=by
   rw[zgs hpart];exact zcH (c:=48) (by decide)
  rw[hr];exact zgT hl (by omega) dot 15 (padH 15 part) (zc6 15 part) (by decide)
 ·rw[if_neg c1];refine eN c1 ?_;by_cases c2:prec>=15
  ·rw[zi9 hpart c2 dot];refine eP c2 ?_;refine eP (by rw[zas];omega) ?_;rw[w64 (x:=prec-15) (by omega) (by omega)];refine Ev.bind (zeR (prec-15) (by omega)) ?_;refine eP (by rw[zas,zas,zc6,zbE];omega) ?_;rw[zbr];exact ziK hl (by rw[List.length_append,zc6,zbE];omega) (by omega) dot
  ·refine eN c2 ?_;rw[if_neg (by omega)];obtain⟨p,rfl⟩: ∃p:Nat,prec=p:=⟨prec.toNat,by omega⟩;rw[Int.toNat_natCast];exact zku hlead (by omega) hpart (by omega) dot
theorem zgV{r:ByteArray}(prec:Int)(dot:Bool): ∀(j m:Nat) (e:Int),1152921504606846976<=m*2^j->m*2^j<2305843009213693952-> -5000+(j:Int)<=e->e<=5000->
 Ev (λk=>zag.j1 k prec dot (S [49]) (e-j+60) ((m*2^j-1152921504606846976:Nat):Int)) r->Ev (λk=>zag.l0 k (m:Int) e prec dot) r
 |0,m,e,h1,h2,h3,h4,h=>by
  rw[Nat.pow_zero,Nat.mul_one] at h1 h2 h
  refine Ev.step (λk=>by simp only[zag.l0];rfl) ?_
  refine eN (by omega) ?_
  rw[w64 (x:=e+60) (by omega) (by omega),show(m:Int)-1152921504606846976=((m-1152921504606846976:Nat):Int) by omega,u64c _ (by omega)]
  rw[show e-((0:Nat):Int)+60=e+60 by omega] at h
  exact h
 |j+1,m,e,h1,h2,h3,h4,h=>by
  have e1:m*2^(j+1)=2*m*2^j:=by rw[Nat.pow_succ,Nat.mul_comm (2^j) 2,<-Nat.mul_assoc,Nat.mul_comm m 2]
  rw[e1] at h1 h2 h
  have hj:1<=2^j:=Nat.pow_pos (by decide)
  have hm:2*m*1<=2*m*2^j:=Nat.mul_le_mul_left _ hj
  refine Ev.step (λk=>by simp only[zag.l0];rfl) ?_
  refine eP (by omega) ?_
  rw[w64 (x:=e-1) (by omega) (by omega),show 2*(m:Int)=((2*m:Nat):Int) by omega,u64c _ (by omega)]
  refine zgV prec dot j (2*m) (e-1) h1 h2 (by omega) (by omega) ?_
  rw[show e-1-(j:Int)+60=e-((j+1:Nat):Int)+60 by omega]
  exact h
theorem zmH{m:Nat}(hm:m<9007199254740992){e:Int}(he: -1200<=e/\e<=1200){prec:Int}(hq: -1<=prec/\prec<=1000)(dot:Bool):
 Ev (λk=>zag.f k (m:Int) e prec dot) (S (hexL m e prec dot false)):=by
 unfold zag.f hexL;by_cases c:m=0
 ·rw[if_pos c];refine eN (by omega) ?_;exact zgU (lead:=[48]) (.inl rfl) (part:=0) (by decide) (by decide) hq dot
 ·rw[if_neg c];refine eP (by omega) ?_;obtain⟨D,A,B⟩:=zgd 64 m c (Nat.lt_of_lt_of_le hm (by decide));have K:Lib.bitLen m<=53:=by
   refine Classical.byContradiction λc=>?_;have:2^53<=2^(Lib.bitLen m-1):=Nat.pow_le_pow_right (by decide) (by omega);(have M:(2:Nat)^53=9007199254740992:=by decide);change 2^(Lib.bitLen m-1)<=m at A;omega
  change 1<=Lib.bitLen m at D;change 2^(Lib.bitLen m-1)<=m at A;change m<2^Lib.bitLen m at B;generalize Lib.bitLen m=n at*
  have E:m*2^(61-n)<2305843009213693952:=by
   have h1:m*2^(61-n)<2^n*2^(61-n):=Nat.mul_lt_mul_of_pos_right B (Nat.pow_pos (by decide));rw[<-Nat.pow_add,show n+(61-n)=61 by omega] at h1;exact h1
  have I:1152921504606846976<=m*2^(61-n):=by
   have h1:2^(n-1)*2^(61-n)<=m*2^(61-n):=Nat.mul_le_mul_right _ A;rw[<-Nat.pow_add,show n-1+(61-n)=60 by omega] at h1;exact h1
  have J:m*2^(64-n)=m*2^(61-n)*8:=by
   rw[show 64-n=61-n+3 by omega,Nat.pow_add,Nat.mul_assoc]
  refine zgV prec dot (61-n) m e I E (by omega) (by omega) ?_;rw[J];generalize m*2^(61-n)=X at*
  (have hpt:X*8%18446744073709551616*2%18446744073709551616=16*(X-1152921504606846976):=by omega);rw[hpt,show e-((61-n:Nat):Int)+60=e+(n:Int)-1 by omega];exact zgU (lead:=[49]) (.inr rfl) (by omega) (by omega) hq dot
theorem zkv{v:List UInt8×Int}{n:Int}(hne:(roundN v.1 v.2 (v.2+n)).1≠[]):((roundN v.1 v.2 (v.2+n)).1.length:Int)<=(roundN v.1 v.2 (v.2+n)).2+n:=by
 have low: ∀u:Nat,(decOf u (v.2-(v.2+n))).1≠[]->((decOf u (v.2-(v.2+n))).1.length:Int)<=(decOf u (v.2-(v.2+n))).2+n:=by
  intro u hu;have hz:u≠0:=λe=>hu (by rw[e,zc9]);have:=zc3 hz (v.2-(v.2+n));omega
 unfold roundN at hne ⊢;by_cases c1:v.2+n<0
 ·rw[if_pos c1] at hne;exact absurd rfl hne
 ·rw[if_neg c1] at hne ⊢;by_cases c2:(v.1.length:Int)<=v.2+n
  ·rw[if_pos c2];exact c2
  ·rw[if_neg c2] at hne ⊢;by_cases c3:downP v.1 (v.2+n).toNat
   ·rw[if_pos c3] at hne ⊢;exact low _ hne
   ·rw[if_neg c3] at hne ⊢;exact low _ hne
end Go.Proofs.YtilidabdbhaljaaGreatDoor.Pure
end
section
namespace Go.Proofs.YtilidabdbhaljaaGreatDoor.Pure
open Go.RowKit Go.Proofs.YtilidabdbhaljaaGreatDoorW.PrintWords Go.Proofs.YtilidabdbhaljaaGreatDoorW.PrintLast Go.Proofs.YtilidabdbhaljaaGreatDoorW.PrintMore Go.Proofs.YtilidabdbhaljaaGreatDoor.Fn
theorem zkw(v:Int):isVerb v=(codeV v !=0):=by
 unfold isVerb codeV;by_cases c1:v=101\/v=69
 (·rw[if_pos c1,decide_eq_true (by omega)];rfl);rw[if_neg c1];by_cases c2:v=102\/v=70
 (·rw[if_pos c2,decide_eq_true (by omega)];rfl);rw[if_neg c2];by_cases c3:v=103\/v=71\/v=118
 (·rw[if_pos c3,decide_eq_true (by omega)];rfl);rw[if_neg c3];by_cases c4:v=98
 (·rw[if_pos c4,decide_eq_true (by omega)];rfl);rw[if_neg c4];by_cases c5:v=120\/v=88
 (·rw[if_pos c5,decide_eq_true (by omega)];rfl);rw[if_neg c5,decide_eq_false (by omega)];rfl
end Go.Proofs.YtilidabdbhaljaaGreatDoor.Pure
end
section
namespace Go.Proofs.YtilidabdbhaljaaGreatDoor.Pure
open Go.RowKit Go.Proofs.YtilidabdbhaljaaGreatDoorW.PrintWords Go.Proofs.YtilidabdbhaljaaGreatDoorW.PrintLast Go.Proofs.YtilidabdbhaljaaGreatDoorW.PrintMore Go.Proofs.YtilidabdbhaljaaGreatDoor.Fn
theorem zeq{v:List UInt8×Int}(h:Near v)(n:Int):Ev (λk=>zbL.f k (S v.1) v.2 n) (S (roundN v.1 v.2 n).1,(roundN v.1 v.2 n).2,0):=by
 have hr:=zi1 (S v.1) v.2 n;have h5:=h.five;unfold roundS at hr;rw[zcN h.form h5.1 h5.2,if_pos rfl] at hr;simp only[L_S] at hr;exact hr
theorem zhU{v:List UInt8×Int}(h:Near v){n:Int}(hn: -20000<=n/\n<=20000):Ev (λk=>zbO.f k (S v.1) v.2 n) (S (roundN v.1 v.2 (v.2+n)).1,(roundN v.1 v.2 (v.2+n)).2,0):=by
 have hr:=zh4 (S v.1) v.2 n;have h5:=h.five;unfold roundS at hr;rw[zcN h.form h5.1 h5.2,if_pos rfl,show max (-20000) (min n 20000)=n by omega] at hr;simp only[L_S] at hr;exact hr
def genM(dot:Bool)(l:List UInt8)(keep:Int):List UInt8:=if dot then fillL (if l=[] then [48] else l) keep else if l=[] then [48] else l
theorem znu(dot big:Bool)(d:List UInt8×Int)(keep top:Int):genL dot big d keep top=if firstL d< -4\/firstL d>=top then sciL dot big (genM dot d.1 keep) (firstL d) else aroundL dot (genM dot d.1 keep) (firstL d+1):=rfl
theorem znN(n:Nat):[48]++zsL n=zsL (n+1):=rfl
theorem zkx(dot:Bool)(l:List UInt8){keep:Int}(hk:1<=keep):
 genM dot l keep=l++zsL ((genM dot l keep).length-l.length)/\l.length<=(genM dot l keep).length/\1<=(genM dot l keep).length/\
  ((genM dot l keep).length:Int)=(if dot=true/\(if l=[] then(1:Int) else(l.length:Int))<keep then keep else if l=[] then(1:Int) else(l.length:Int)):=by
 unfold genM;by_cases c:l=[]
 ·subst c;cases dot with
  |true=>
   (have e:fillL [48] keep=zsL ((keep-1).toNat+1):=by unfold fillL;exact znN _);simp only[if_pos trivial,true_and];rw[e,zbE];refine⟨rfl,Nat.zero_le _,by omega,?_⟩;split<;>omega
  |false=>exact⟨rfl,Nat.zero_le _,Nat.le_refl 1,by simp⟩
 ·have hl:1<=l.length:=Nat.succ_le_of_lt (List.length_pos_iff.2 c);simp only[if_neg c];cases dot with
  |true=>
   have hf:=zb7 l keep;simp only[if_pos trivial,true_and];refine⟨?_,by omega,by omega,?_⟩
   ·show l++zsL (keep-l.length).toNat=l++zsL ((fillL l keep).length-l.length);rw[show(fillL l keep).length-l.length=(keep-l.length).toNat by omega]
   ·split<;>omega
  |false=>
   refine⟨?_,Nat.le_refl _,hl,by simp⟩;show l=l++zsL (l.length-l.length);rw[Nat.sub_self];exact(List.append_nil l).symm
theorem zmI{l:List UInt8}{n:Nat}(h:l.length<=n):fillL l (n:Int)=l++zsL (n-l.length):=by
 unfold fillL;rw[show((n:Int)-(l.length:Int)).toNat=n-l.length by omega]
theorem zd7(p m s sp z:Bool)(wid prc v:Int)(dot:Bool){d:List UInt8×Int}(hform:InForm d.1 d.2)(hd:d.1.length<=2000/\ -4000<=d.2/\d.2<=1500){keep top:Int}(hk:1<=keep/\keep<=1000):
 Ev (λk=>zah.j1 k dot top keep p m s sp z wid prc v (S d.1) d.2) (S (genL dot (bigV v) d keep top)):=by
 obtain⟨l,q⟩:=d;dsimp only at hd hform ⊢;have hfb:=zcQ (d:=(l,q)) hd.2;obtain⟨g1,g2,g3,g4⟩:=zkx dot l hk.1;rw[znu];dsimp only;obtain⟨M,hM⟩: ∃M,genM dot l keep=M:=⟨_,rfl⟩;rw[hM] at g1 g2 g3 g4 ⊢;have hML:M.length<=2000:=by
  (have:(M.length:Int)<=2000:=by rw[g4];split<;>(try split)<;>omega);omega
 have j4:Ev (λk=>zah.j4 k dot top (M.length:Int) p m s sp z wid prc v (S l) q) (S (if firstL (l,q)< -4\/firstL (l,q)>=top then sciL dot (bigV v) M (firstL (l,q)) else aroundL dot M (firstL (l,q)+1))):=by
  refine Ev.step (λk=>by simp only[zah.j4];rfl) ?_;rw[zeS l (by omega)];simp only[Option.bind_some];have hsci:Ev (λk=>zah.j5 k dot (M.length:Int) (firstL (l,q)) true p m s sp z wid prc v (S l) q) (S (sciL dot (bigV v) M (firstL (l,q)))):=by
   refine Ev.step (λk=>by simp only[zah.j5];rfl) ?_;refine eP (by first|rfl|trivial) ?_;have hf:=zfx l q (M.length:Int) (by omega);rw[zmI g2,<-g1] at hf;refine Ev.bind hf ?_;exact Ev.bind (ziF (λe=>by rw[e] at g3;exact absurd g3 (by decide)) (by omega) (by omega) v dot) (Ev.now _)
  have haro:Ev (λk=>zah.j5 k dot (M.length:Int) (firstL (l,q)) false p m s sp z wid prc v (S l) q) (S (aroundL dot M (firstL (l,q)+1))):=by
   have hP: ∀P:Nat,(P:Int)=max 0 ((M.length:Int)-1-firstL (l,q))->ptL dot (headL l q) (rowL l q P)=aroundL dot M (firstL (l,q)+1):=by
    intro P hP;by_cases c:l=[]
    ·subst c;have hq:q=0:=hform.2.2.2 rfl;subst hq;have hx:firstL ([],0)=0:=rfl;rw[hx] at hP ⊢;rw[ziG,g1,List.nil_append];unfold aroundL;rw[if_neg (by decide)];obtain⟨j,hj⟩: ∃j,M.length-([]:List UInt8).length=j+1:=⟨M.length-1,by simp;omega⟩;rw[hj];have e1:fillL (zsL (j+1)) (0+1)=zsL (j+1):=by
      unfold fillL;rw[zbE,show((0:Int)+1-((j+1:Nat):Int)).toNat=0 by omega];exact List.append_nil _
     rw[e1];(have e2:P=j:=by simp at hj;omega);rw[e2];rfl
    ·(have hx:firstL (l,q)=q-1:=by unfold firstL;rw[if_neg c]);rw[hx] at hP ⊢;have h:=zgc (l:=l) (q:=q) c dot (M.length-l.length);rw[<-g1,show(((l.length+(M.length-l.length):Nat):Int)-q).toNat=P by omega] at h;rw[h,show q-1+1=q by omega]
   refine Ev.step (λk=>by simp only[zah.j5];rfl) ?_;refine eN (by simp) ?_;rw[w64 (x:=(M.length:Int)-1) (by omega) (by omega),w64 (x:=(M.length:Int)-1-firstL (l,q)) (by omega) (by omega)];by_cases c:(M.length:Int)-1-firstL (l,q)<0
   ·refine eP c ?_;have h:=zgq (l:=l) (q:=q) (by omega) (by omega) dot (P:=0) (by decide);rw[hP 0 (by omega)] at h;exact Ev.bind h (Ev.now _)
   ·refine eN c ?_;obtain⟨P,hPe⟩: ∃P:Nat,(M.length:Int)-1-firstL (l,q)=P:=⟨((M.length:Int)-1-firstL (l,q)).toNat,by omega⟩;have h:=zgq (l:=l) (q:=q) (by omega) (by omega) dot (P:=P) (by omega);rw[hP P (by omega)] at h;rw[hPe];exact Ev.bind h (Ev.now _)
  obtain⟨x,hx⟩: ∃x,firstL (l,q)=x:=⟨_,rfl⟩;rw[hx] at hsci haro ⊢;by_cases c1:x< -4
  ·rw[if_pos (.inl c1)];exact eP c1 hsci
  ·refine eN c1 ?_;by_cases c2:x>=top
   ·rw[if_pos (.inr c2),decide_eq_true c2];exact hsci
   ·rw[if_neg (by omega),decide_eq_false c2];exact haro
 have j2: ∀n1:Int,n1=(if l=[] then(1:Int) else(l.length:Int))->Ev (λk=>zah.j2 k dot top keep n1 p m s sp z wid prc v (S l) q) (S (if firstL (l,q)< -4\/firstL (l,q)>=top then sciL dot (bigV v) M (firstL (l,q)) else aroundL dot M (firstL (l,q)+1))):=by
  intro n1 A;rw[<-A] at g4;have j3: ∀u:Bool,u=decide (dot=true/\n1<keep)->Ev (λk=>zah.j3 k dot top keep n1 u p m s sp z wid prc v (S l) q) (S (if firstL (l,q)< -4\/firstL (l,q)>=top then sciL dot (bigV v) M (firstL (l,q)) else aroundL dot M (firstL (l,q)+1))):=by
   intro u hu;refine Ev.step (λk=>by simp only[zah.j3];rfl) ?_;by_cases c:dot=true/\n1<keep
   ·rw[if_pos c] at g4;refine eP (by rw[hu];exact decide_eq_true c) ?_;rw[<-g4];exact j4
   ·rw[if_neg c] at g4;refine eN (by rw[hu,decide_eq_false c];simp) ?_;rw[<-g4];exact j4
  refine Ev.step (λk=>by simp only[zah.j2];rfl) ?_;by_cases cd:dot=true
  ·refine eP cd ?_;exact j3 _ (by rw[Bool.eq_iff_iff,decide_eq_true_iff,decide_eq_true_iff];exact⟨λh=>⟨cd,h⟩,λh=>h.2⟩)
  ·refine eN cd ?_;exact j3 _ (by rw[eq_comm];exact decide_eq_false (λh=>cd h.1))
 refine Ev.step (λk=>by simp only[zah.j1];rfl) ?_;rw[zas];by_cases c:l=[]
 ·refine eP (by rw[c];rfl) ?_;exact j2 1 (by rw[if_pos c])
 ·have hl:1<=l.length:=Nat.succ_le_of_lt (List.length_pos_iff.2 c);refine eN (by omega) ?_;exact j2 _ (by rw[if_neg c])
theorem zgt(wide:Bool){a p:Nat}(hb:bareN wide a=p)(hp:p<ii wide):shortS wide a=(S (shortL wide p).1,(shortL wide p).2,0):=by
 unfold shortS shortL;rw[hb,if_neg (by omega)];split<;>rfl
theorem zh7(wide:Bool){a p0:Nat}(ha:a<18446744073709551616)(hb:bareN wide a=p0)(hp:p0<ii wide){mm:Nat}(hm:mm<18446744073709551616){e:Int}(h: -1200<=e/\e<=1200){prec:Int}(hq: -1<=prec/\prec<=1000)(p m s sp z:Bool)(wid prc v:Int):
 Ev (λk=>zah.f k (a:Int) (szB wide) (S (exD mm e).1) (exD mm e).2 prec p m s sp z wid prc v) (S (genOf wide p0 mm e prec (s&&v !=118) (bigV v))):=by
 have hn:=zdg hm h;have hs:=zfc wide hp;have hsh:=zhK wide a ha;rw[zgt wide hb hp] at hsh;have key: ∀dot:Bool,Ev (λk=>zah.j0 k (a:Int) (szB wide) prec dot (S (exD mm e).1) (exD mm e).2 p m s sp z wid prc v) (S (genOf wide p0 mm e prec dot (bigV v))):=by
  intro dot;refine Ev.step (λk=>by simp only[zah.j0];rfl) ?_;refine Ev.bind hsh ?_;unfold genOf;by_cases c:prec<0
  ·rw[if_pos c];refine eN (by omega) ?_;exact zd7 p m s sp z wid prc v dot hs.1 hs.2 (by decide)
  ·rw[if_neg c];refine eP (by omega) ?_;by_cases c0:prec=0
   ·refine eP c0 ?_;rw[show max prec 1=1 by omega];have hbd:=zcm hn 1;refine Ev.bind (zeq hn 1) ?_;exact zd7 p m s sp z wid prc v dot (zds hn.form 1) (by omega) (by decide)
   ·refine eN c0 ?_;rw[show max prec 1=prec by omega];have hbd:=zcm hn prec;refine Ev.bind (zeq hn prec) ?_;exact zd7 p m s sp z wid prc v dot (zds hn.form prec) (by omega) (by omega)
 unfold zah.f;cases s with
 |true=>exact eP rfl (key (v !=118))
 |false=>exact eN (by simp) (key false)
theorem zky{l:List UInt8}{q:Int}{P:Nat}(h:l≠[]->(l.length:Int)<=q+P)(dot:Bool):
 ptL dot (headL l q) (rowL l q P)=(if l=[] then ptL dot [48] (zsL P) else if q<=0 then ptL dot [48] (fillL (zsL (-q).toNat++l) (P:Int)) else aroundL dot (fillL l (q+P)) q):=by
 by_cases c:l=[]
 ·rw[if_pos c,c,ziG]
 ·rw[if_neg c];have h1:=h c;have hp:=zgc (l:=l) (q:=q) c dot (q+P-l.length).toNat;rw[show(((l.length+(q+(P:Int)-(l.length:Int)).toNat:Nat):Int)-q).toNat=P by omega] at hp;rw[hp];by_cases c2:q<=0
  ·rw[if_pos c2];unfold aroundL fillL;rw[if_pos c2,List.length_append,zbE,List.append_assoc,show((P:Int)-(((-q).toNat+l.length:Nat):Int)).toNat=(q+P-l.length).toNat by omega]
  ·rw[if_neg c2];rfl
theorem zgW{v:List UInt8×Int}(h:Near v){n:Int}(hn:0<=n/\n<=1000)(dot:Bool):
 Ev (λk=>(zbO.f k (S v.1) v.2 n).bind λbt=>((zaq.f k bt.1 bt.2.1 n dot).bind λt=>(some t))) (S (fixedL dot v n)):=by
 have hb:=zcm h (v.2+n);refine Ev.bind (zhU h (by omega)) ?_;obtain⟨P,rfl⟩: ∃P:Nat,n=P:=⟨n.toNat,by omega⟩;have hl:=zkv (v:=v) (n:=(P:Int));unfold fixedL;generalize roundN v.1 v.2 (v.2+(P:Int))=d at*
 obtain⟨l,q⟩:=d;dsimp only at hb hl ⊢;have hp:=zgq (l:=l) (q:=q) (by omega) (by omega) dot (P:=P) (by omega);rw[zky hl] at hp;exact Ev.bind hp (Ev.now _)
theorem zmJ(m:Nat)(e prec:Int)(dot:Bool):hexL m e prec dot true=Lib.toUpperA (hexL m e prec dot false):=by
 have tail: ∀(lead:List UInt8) (part:Nat) (x:Int),hexTail dot true lead part x prec=Lib.toUpperA (hexTail dot false lead part x prec):=by
  intro lead part x;unfold hexTail;split
  ·rfl
  ·split<;>rfl
 unfold hexL;split<;>exact tail _ _ _
theorem zly(wide:Bool){a p0:Nat}(ha:a<18446744073709551616)(hb:bareN wide a=p0)(hp:p0<ii wide){mm:Nat}(hm:mm<9007199254740992){e:Int}(h: -1200<=e/\e<=1200)(p m s sp z:Bool)(wid prec v:Int)(hc:codeV v≠0):
 Ev (λk=>zam.f k (a:Int) (szB wide) (mm:Int) e p m s sp z wid prec v) (S (restL wide p0 mm e (clamp prec) v s)):=by
 have hq:=zdA prec;(have E:mm<18446744073709551616:=by omega);have hn:=zdg E h;have hx:=zgD mm e E;rw[zcW mm h] at hx;unfold zam.f;rw[zfS];simp only[Option.bind_some];refine Ev.bind hx ?_;obtain⟨pr,hpr⟩: ∃pr,clamp prec=pr:=⟨_,rfl⟩;rw[hpr] at hq ⊢;have hsci: ∀n:Int,0<=n->n<=1000->Ev (λk=>zam.j2 k n p m s sp z wid prec v (S (exD mm e).1) (exD mm e).2) (S (scaledL s (bigV v) (exD mm e) n)):=by
  intro n h0 h1;have hbd:=zcm hn (n+1);have hfl:=zb7 (roundN (exD mm e).1 (exD mm e).2 (n+1)).1 (n+1);have hfb:=zcQ (d:=roundN (exD mm e).1 (exD mm e).2 (n+1)) hbd.2;refine Ev.step (λk=>by simp only[zam.j2];rfl) ?_;rw[w64 (x:=n+1) (by omega) (by omega)];refine Ev.bind (zeq hn (n+1)) ?_;unfold scaledL;generalize roundN (exD mm e).1 (exD mm e).2 (n+1)=d at*
  obtain⟨l,q⟩:=d;dsimp only at hbd hfl hfb ⊢;refine Ev.bind (zfx l q (n+1) (by omega)) ?_;rw[zeS l (by omega)];simp only[Option.bind_some];exact Ev.bind (ziF (zgo (by omega)) (by omega) (by omega) v s) (Ev.now _)
 have hsix:=zhL hq;have M:Ev (λk=>zam.j1 k (a:Int) (szB wide) pr v true p m s sp z wid prec v (S (exD mm e).1) (exD mm e).2) (S (scaledL s (bigV v) (exD mm e) (six pr))):=by
  refine Ev.step (λk=>by simp only[zam.j1];rfl) ?_;refine eP (by first|rfl|trivial) ?_;unfold six;by_cases c:pr<0
  ·rw[if_pos c];exact eP c (hsci 6 (by decide) (by decide))
  ·rw[if_neg c];exact eN c (hsci pr (by omega) hq.2)
 have O:Ev (λk=>zam.j3 k (a:Int) (szB wide) pr true p m s sp z wid prec v (S (exD mm e).1) (exD mm e).2) (S (fixedL s (exD mm e) (six pr))):=by
  refine Ev.step (λk=>by simp only[zam.j3];rfl) ?_;refine eP (by first|rfl|trivial) ?_;unfold six;by_cases c:pr<0
  ·rw[if_pos c];exact eP c (zgW hn (by decide) s)
  ·rw[if_neg c];exact eN c (zgW hn (by omega) s)
 have U:Ev (λk=>zam.j3 k (a:Int) (szB wide) pr false p m s sp z wid prec v (S (exD mm e).1) (exD mm e).2) (S (genOf wide p0 mm e pr (s&&v !=118) (bigV v))):=by
  refine Ev.step (λk=>by simp only[zam.j3];rfl) ?_;refine eN (by simp) ?_;exact Ev.bind (zh7 wide ha hb hp E h hq p m s sp z wid prec v) (Ev.now _)
 have hhex:=zmH hm h hq s;have hfit:=(ziA mm e hq s false).2;have I:Ev (λk=>zam.j0 k (a:Int) (szB wide) (mm:Int) e pr v true p m s sp z wid prec v (S (exD mm e).1) (exD mm e).2) (S (hexL mm e pr s (v==88))):=by
  refine Ev.step (λk=>by simp only[zam.j0];rfl) ?_;refine eP (by first|rfl|trivial) ?_;refine Ev.bind hhex ?_;by_cases c:v=88
  ·refine eP c ?_;rw[show(v==88)=true from beq_iff_eq.mpr c,zmJ];exact Ev.bind (zkr _ (by omega)) (Ev.now _)
  ·refine eN c ?_;rw[show(v==88)=false from beq_eq_false_iff_ne.mpr c];exact Ev.now _
 have J: ∀{r:ByteArray},(v=101\/v=69->Ev (λk=>zam.j1 k (a:Int) (szB wide) pr v true p m s sp z wid prec v (S (exD mm e).1) (exD mm e).2) r)->(v≠101/\v≠69->Ev (λk=>zam.j1 k (a:Int) (szB wide) pr v false p m s sp z wid prec v (S (exD mm e).1) (exD mm e).2) r)->
  Ev (λk=>zam.j0 k (a:Int) (szB wide) (mm:Int) e pr v false p m s sp z wid prec v (S (exD mm e).1) (exD mm e).2) r:=by
  intro r h1 h2
  refine Ev.step (λk=>by simp only[zam.j0];rfl) ?_
  refine eN (by simp) ?_
  by_cases c1:v=101
  ·refine eP c1 ?_
   rw[show(v==101)=true from beq_iff_eq.mpr c1]
   exact h1 (.inl c1)
  ·refine eN c1 ?_
   by_cases c2:v=69
   ·rw[show(v==69)=true from beq_iff_eq.mpr c2]
    exact h1 (.inr c2)
   ·rw[show(v==69)=false from beq_eq_false_iff_ne.mpr c2]
    exact h2 ⟨c1,c2⟩
 have K: ∀{r:ByteArray},(v=102\/v=70->Ev (λk=>zam.j3 k (a:Int) (szB wide) pr true p m s sp z wid prec v (S (exD mm e).1) (exD mm e).2) r)->(v≠102/\v≠70->Ev (λk=>zam.j3 k (a:Int) (szB wide) pr false p m s sp z wid prec v (S (exD mm e).1) (exD mm e).2) r)->
  Ev (λk=>zam.j1 k (a:Int) (szB wide) pr v false p m s sp z wid prec v (S (exD mm e).1) (exD mm e).2) r:=by
  intro r h1 h2
  refine Ev.step (λk=>by simp only[zam.j1];rfl) ?_
  refine eN (by simp) ?_
  by_cases c1:v=102
  ·refine eP c1 ?_
   rw[show(v==102)=true from beq_iff_eq.mpr c1]
   exact h1 (.inl c1)
  ·refine eN c1 ?_
   by_cases c2:v=70
   ·rw[show(v==70)=true from beq_iff_eq.mpr c2]
    exact h1 (.inr c2)
   ·rw[show(v==70)=false from beq_eq_false_iff_ne.mpr c2]
    exact h2 ⟨c1,c2⟩
 (have A:v≠118->(s&&v !=118)=s:=λc=>by rw[bne_iff_ne.mpr c,Bool.and_true]);unfold restL;by_cases D:v=98
 ·(have hcode:codeV v=4:=by rw[D];rfl);rw[hcode,if_neg (by decide),if_neg (by decide),if_neg (by decide),if_pos rfl];refine eP D ?_;have hbl:=zd5 10 mm;have hpl:=zcV [] (e:=e) (least:=1) (by decide);refine Ev.bind (zdU (b:=10) (.inl rfl) (n:=mm) (by omega)) ?_;refine eP (by rw[zas];omega) ?_;refine Ev.bind (zfe (e:=e) (least:=1) (by omega) (by decide)) ?_;rw[show(⟨#[112]⟩:ByteArray)=S [112] from rfl,zbr];refine eP (by rw[zas,zas,List.length_append,List.length_singleton];simp at hpl;omega) ?_;rw[zbr,List.append_assoc,zfT];exact Ev.now _
 ·refine eN D ?_;by_cases cx:v=120\/v=88
  ·(have hcode:codeV v=5:=by rcases cx with e|e<;>rw[e]<;>rfl);rw[hcode,if_neg (by decide),if_neg (by decide),if_neg (by decide),if_neg (by decide),A (by omega)];by_cases B:v=120
   ·refine eP B ?_;rw[show(v==120)=true from beq_iff_eq.mpr B];exact I
   ·refine eN B ?_;have X:(v==88)=true:=beq_iff_eq.mpr (cx.resolve_left B);have hj:=I;rw[X] at hj ⊢;exact hj
  ·have n120:(v==120)=false:=beq_eq_false_iff_ne.mpr (λe=>cx (.inl e));have n88:(v==88)=false:=beq_eq_false_iff_ne.mpr (λe=>cx (.inr e))
   have go: ∀{r:ByteArray},Ev (λk=>zam.j0 k (a:Int) (szB wide) (mm:Int) e pr v false p m s sp z wid prec v (S (exD mm e).1) (exD mm e).2) r->
    Ev (λk=>if v=120 then(zam.j0 k (a:Int) (szB wide) (mm:Int) e pr v (v==120) p m s sp z wid prec v (S (exD mm e).1) (exD mm e).2) else(zam.j0 k (a:Int) (szB wide) (mm:Int) e pr v (v==88) p m s sp z wid prec v (S (exD mm e).1) (exD mm e).2)) r:=by
    intro r hr
    refine eN (λe=>cx (.inl e)) ?_
    rw[n88]
    exact hr
   refine go ?_;by_cases ce:v=101\/v=69
   ·(have hcode:codeV v=1:=by rcases ce with e|e<;>rw[e]<;>rfl);rw[hcode,if_pos rfl,A (by omega)];exact J (λ_=>M) (λh=>absurd ce (by omega))
   ·refine J (λh=>absurd h ce) (λ_=>?_);by_cases cf:v=102\/v=70
    ·(have hcode:codeV v=2:=by rcases cf with e|e<;>rw[e]<;>rfl);rw[hcode,if_neg (by decide),if_pos rfl,A (by omega)];exact K (λ_=>O) (λh=>absurd cf (by omega))
    ·refine K (λh=>absurd h cf) (λ_=>?_);have hcode:codeV v=3:=by
      unfold codeV at hc ⊢;rw[if_neg ce,if_neg cf] at hc ⊢;by_cases cg:v=103\/v=71\/v=118
      ·rw[if_pos cg]
      ·rw[if_neg cg,if_neg D,if_neg cx] at hc;exact absurd rfl hc
     rw[hcode,if_neg (by decide),if_neg (by decide),if_pos rfl];exact U
theorem zmK{sign rest:List UInt8}(hs:sign.length<=1/\Asc sign)(hr:Fit rest)(p m s sp z:Bool)(wid prec v:Int):
 Ev (λk=>if z=true then(zal.j4 k (S sign) (S rest) (!m) p m s sp z wid prec v) else(zal.j4 k (S sign) (S rest) false p m s sp z wid prec v)) (S (endL sign rest m z wid),true):=by
 have ha:=hr.1;have hl:=hr.2;have hcl:=zdA wid;have key: ∀u:Bool,Ev (λk=>zal.j4 k (S sign) (S rest) u p m s sp z wid prec v) (S (padL (sign++(if u then List.replicate (max 0 (min wid 1000)-sign.length-rest.length).toNat 48++rest else rest)) m false wid),true):=by
  intro u;refine Ev.step (λk=>by simp only[zal.j4];rfl) ?_;cases u with
  |true=>
   refine eP rfl ?_;rw[zfS];simp only[Option.bind_some];rw[if_pos trivial,zas,zas,w64 (x:=clamp wid-(sign.length:Int)) (by omega) (by omega),w64 (x:=clamp wid-(sign.length:Int)-(rest.length:Int)) (by omega) (by omega)];have hz:=zeR (clamp wid-(sign.length:Int)-(rest.length:Int)) (by omega);(have he:(max 0 (min wid 1000)-(sign.length:Int)-(rest.length:Int)).toNat=(clamp wid-(sign.length:Int)-(rest.length:Int)).toNat:=by unfold clamp;omega);rw[he];refine Ev.bind hz ?_;(have hn:(clamp wid-(sign.length:Int)-(rest.length:Int)).toNat<=1000:=by omega);generalize (clamp wid-(sign.length:Int)-(rest.length:Int)).toNat=n at*
   refine eP (by rw[zas,zbE];omega) ?_;rw[zbr];refine eP (by rw[zas,List.length_append,zbE];omega) ?_;rw[zbr];exact Ev.bind (zem (hs.2.app ((zdv n).app ha)) (by rw[List.length_append,List.length_append,zbE];omega) p m s sp z wid prec v) (Ev.now _)
  |false=>
   refine eN (by simp) ?_;show Ev _ (S (padL (sign++rest) m false wid),true);refine eP (by rw[zas,zas];omega) ?_;rw[zbr];exact Ev.bind (zem (hs.2.app ha) (by rw[List.length_append];omega) p m s sp z wid prec v) (Ev.now _)
 unfold endL;cases z with
 |true=>exact eP rfl (key (!m))
 |false=>exact eN (by simp) (key false)
theorem zhV(sign rest:List UInt8)(m:Bool)(wid:Int):endL sign rest m false wid=padL (sign++rest) m false wid:=rfl
theorem zgX(wide:Bool){a:Nat}(ha:a<18446744073709551616)(p m s sp z:Bool)(wid prec v:Int):
 Ev (λk=>zal.f k (a:Int) (szB wide) p m s sp z wid prec v) (floatS wide a p m s sp z wid prec v):=by
 have hi:=zeh wide;have hk:(partsS wide a).2.2.2≠3:=by
  unfold partsS;split
  ·exact(by decide:(0:Int)≠3)
  ·dsimp only;split<;>decide
 unfold zal.f floatS;refine Ev.bind (ze4 wide a ha) ?_;refine eN hk ?_;unfold zcs.f;simp only[Option.bind_some];rw[zkw];refine Ev.step (λk=>by simp only[zal.j0];rfl) ?_;by_cases c0:codeV v=0
 ·rw[if_pos c0,c0];refine eP (by decide) ?_;exact Ev.now _
 ·rw[if_neg c0,bne_iff_ne.mpr c0];refine eN (by decide) ?_
  have signs: ∀{r:ByteArray×Bool} (x8:Bool) (x9 A B:Int),
   Ev (λk=>zal.j2 k (a:Int) (szB wide) x8 x9 A B (S (if p then [43] else if sp then [32] else [])) p m s sp z wid prec v) r->
   Ev (λk=>if sp=true then(zal.j1 k (a:Int) (szB wide) x8 x9 A B (⟨#[32]⟩:ByteArray) p m s sp z wid prec v) else(zal.j1 k (a:Int) (szB wide) x8 x9 A B (⟨#[]⟩:ByteArray) p m s sp z wid prec v)) r:=by
   intro r x8 x9 A B h
   have one: ∀t:ByteArray,t=S (if sp then [32] else [])->Ev (λk=>zal.j1 k (a:Int) (szB wide) x8 x9 A B t p m s sp z wid prec v) r:=by
    intro t ht
    refine Ev.step (λk=>by simp only[zal.j1];rfl) ?_
    rw[ht]
    cases p with
    |true=>exact eP rfl h
    |false=>exact eN (by simp) h
   cases sp with
   |true=>exact eP rfl (one _ rfl)
   |false=>exact eN (by simp) (one _ rfl)
  obtain⟨sg,hsg⟩: ∃sg:List UInt8,(if p then [43] else if sp then [32] else [])=sg:=⟨_,rfl⟩;have hsgl:sg.length<=1/\Asc sg:=by
   rw[<-hsg];cases p<;>cases sp<;>exact⟨by decide,by decide⟩
  rw[hsg] at signs;obtain⟨ng,hng⟩: ∃ng:Bool,(a / tt wide%2==1)=ng:=⟨_,rfl⟩;by_cases c1:bareN wide a<ii wide
  ·rw[if_pos c1];have hb:=fEl wide (Nat.le_of_lt c1);have D:=zdT wide (Nat.le_of_lt c1);have e1:partsS wide a=((a / tt wide%2==1:Bool),(fM (ff wide) (bareN wide a):Int),(fE (ff wide) (bareN wide a):Int)-(ll wide:Int),0):=by
    unfold partsS;rw[if_pos c1]
   rw[e1,hng];refine signs _ _ _ _ ?_;obtain⟨p0,E⟩: ∃p0,bareN wide a=p0:=⟨_,rfl⟩;rw[E] at c1 hb D ⊢;have hm:=D.2;generalize fM (ff wide) p0=mm at*
   generalize (fE (ff wide) p0:Int)-(ll wide:Int)=e at*
   have hbare:=zly wide ha E c1 hm (e:=e) (by omega) p m s sp z wid prec v c0;have hfit:=zfQ wide c1 (show mm<18446744073709551616 by omega) (e:=e) (by omega) (zdA prec) v s;have hsl:=zdz ng 0 p sp;refine Ev.step (λk=>by simp only[zal.j2];rfl) ?_;refine eN (by decide) ?_;have j3:Ev (λk=>zal.j3 k (a:Int) (szB wide) (mm:Int) e 0 (S (signL ng 0 p sp)) p m s sp z wid prec v) (S (endL (signL ng 0 p sp) (restL wide p0 mm e (clamp prec) v s) m z wid),true):=by
    refine Ev.step (λk=>by simp only[zal.j3];rfl) ?_;refine eN (by decide) ?_;exact Ev.bind hbare (zmK hsl hfit p m s sp z wid prec v)
   cases ng with
   |true=>exact eP rfl j3
   |false=>
    refine eN (by simp) ?_;(have e3:signL false 0 p sp=sg:=by rw[<-hsg];unfold signL;cases p<;>cases sp<;>rfl);rw[e3] at j3 ⊢;exact j3
  ·rw[if_neg c1];have e1:partsS wide a=((a / tt wide%2==1:Bool),0,0,if bareN wide a=ii wide then 1 else 2):=by
    unfold partsS;rw[if_neg c1]
   rw[e1,hng];by_cases c2:bareN wide a=ii wide
   ·rw[if_pos c2,if_pos c2];refine signs _ _ _ _ ?_;refine Ev.step (λk=>by simp only[zal.j2];rfl) ?_;refine eN (by decide) ?_;have hsl:=zdz ng 1 p sp;have fin: ∀l:List UInt8,l.length<=1->Asc l->Ev (λk=>(zbu.f k (S l++(⟨#[73,110,102]⟩:ByteArray)) p m s sp z wid prec v).bind λt=>some (t,true)) (S (endL l [73,110,102] m false wid),true):=by
     intro l h1 h2;rw[show(⟨#[73,110,102]⟩:ByteArray)=S [73,110,102] from rfl,zbr,zhV];exact Ev.bind (zem (h2.app (by decide)) (by rw[List.length_append];simp;omega) p m s sp z wid prec v) (Ev.now _)
    have j3: ∀l:List UInt8,l.length<=1->Asc l->signL ng 1 p sp=(if l=[] then [43] else l)->Ev (λk=>zal.j3 k (a:Int) (szB wide) 0 0 1 (S l) p m s sp z wid prec v) (S (endL (signL ng 1 p sp) [73,110,102] m false wid),true):=by
     intro l h1 h2 h3;refine Ev.step (λk=>by simp only[zal.j3];rfl) ?_;refine eP (by first|rfl|trivial) ?_;rw[h3];by_cases c:l=[]
     ·rw[if_pos c];refine eP ((zbD l).2 c) ?_;refine eP (by decide) ?_;exact fin [43] (by decide) (by decide)
     ·rw[if_neg c];refine eN (λe=>c ((zbD l).1 e)) ?_;refine eP (by rw[zas];omega) ?_;exact fin l h1 h2
    cases ng with
    |true=>exact eP rfl (j3 [45] (by decide) (by decide) rfl)
    |false=>
     refine eN (by simp) ?_;exact j3 sg hsgl.1 hsgl.2 (by rw[<-hsg];unfold signL;cases p<;>cases sp<;>rfl)
   ·rw[if_neg c2,if_neg c2];refine signs _ _ _ _ ?_;refine Ev.step (λk=>by simp only[zal.j2];rfl) ?_;refine eP (by first|rfl|trivial) ?_;(have e3:signL ng 2 p sp=sg:=by rw[<-hsg];unfold signL;cases ng<;>cases p<;>cases sp<;>rfl);rw[e3];refine eP (by rw[zas];omega) ?_;rw[show(⟨#[78,97,78]⟩:ByteArray)=S [78,97,78] from rfl,zbr,zhV];exact Ev.bind (zem (hsgl.2.app (by decide)) (by rw[List.length_append];simp;omega) p m s sp z wid prec v) (Ev.now _)
theorem zfi(a:Int){n:Int}(h1:n≠32)(h2:n≠64)(p m s sp z:Bool)(wid prec v:Int):
 Ev (λk=>zal.f k a n p m s sp z wid prec v) (⟨#[]⟩,false):=by
 unfold zal.f;refine Ev.bind (zjw a h1 h2) ?_;refine eP (by first|rfl|trivial) ?_;refine Ev.step (λk=>by simp only[zal.j0];rfl) ?_;exact eP (by first|rfl|trivial) (Ev.now _)
end Go.Proofs.YtilidabdbhaljaaGreatDoor.Pure
end
section
namespace Go.Proofs.YtilidabdbhaljaaGreatDoor.Fn
open Go.RowKit Go.Proofs.YtilidabdbhaljaaGreatDoorW.PrintWords Go.Proofs.YtilidabdbhaljaaGreatDoorW.PrintLast Go.Proofs.YtilidabdbhaljaaGreatDoorW.PrintMore
set_option maxHeartbeats 8000000
set_option maxRecDepth 100000
section
attribute [local go_sem] fnW_0 fnW_1 fnW_2 fnW_3 fnW_4 fnW_5 fnW_guard fnW_eql zaC zaD zaI zaJ
def platenlaw07_CplxTexts.f(k:Nat)(D:Int)(E:Int)(a1:Int)(I:Bool)(J:Bool)(K:Bool)(M:Bool)(O:Bool)(U:Int)(X:Int)(Y:Int):Option (Bool):=(zby.f k D E a1 I J K M O U X Y).bind λA=>((zaN.f k D E a1 I J K M O U X Y).bind λB=>(if A.1.toList=B.1.toList then(if(A.2==B.2)=true then((zbX.f k).bind λZ=>(some Z)) else(some false)) else(some false)))
theorem platenlaw07_CplxTexts.calls(k:Nat)(J:Int)(K:Int)(a1:Int)(M:Bool)(O:Bool)(U:Bool)(X:Bool)(Y:Bool)(Z:Int)(aa:Int)(ab:Int)(r:Bool)(w:World)(h:platenlaw07_CplxTexts.f k J K a1 M O U X Y Z aa ab=some r):
 Calls Tryz.prog 7 #[.agg #[.int .u64 J,.int .u64 K],.int .i64 a1,.agg #[.bool M,.bool O,.bool U,.bool X,.bool Y,.int .i64 Z,.int .i64 aa,.int .i32 ab]] w λe w'=>e= .returned (.bool r)/\Below w.heap.size w w':=by
 have cP:=Tryz.underlying34;have cQ:=Tryz.underlying26;have HB:=zaa.mk (Below.refl w.heap.size w);have H:((zby.f k J K a1 M O U X Y Z aa ab).bind λah=>((zaN.f k J K a1 M O U X Y Z aa ab).bind λai=>(if ah.1.toList=ai.1.toList then(if(ah.2==ai.2)=true then((zbX.f k).bind λaj=>(some aj)) else(some false)) else(some false))))=some r:=h;clear h;replace H:=bs H;obtain⟨⟨af,ad⟩,A4,H⟩:=H;dsimp only at H;replace H:=bs H;obtain⟨⟨ag,ae⟩,A5,H⟩:=H;dsimp only at H;by_cases c6:af.toList=ag.toList;case neg=>
  replace H:=hN H c6;have ao:(af.toList==ag.toList)=false:=beq_eq_false_iff_ne.mpr c6;have ap:(af.toList !=ag.toList)=true:=bne_iff_ne.mpr c6;obtain rfl:=Option.some.inj H;go_enter Tryz.func7,Tryz.ntmps7;go_wp2_with (first|((with_reducible refine zae (N:=3) rfl ?_);refine zaf rfl (N:=3) rfl (cs:=#[.int .u64 J,.int .u64 K]) (t:=34) gz ?_;intro A hg c8 hbox hb;have ak:=gN bz hg;have al:=gN bz hg;have B:=zaa.mk hbox;replace HB:=bN bz hb;clear hb hbox hg)|((with_reducible refine zae (N:=5) rfl ?_);refine zaf rfl (N:=5) rfl (cs:=#[.bool M,.bool O,.bool U,.bool X,.bool Y,.int .i64 Z,.int .i64 aa,.int .i32 ab]) (t:=26) gz ?_;intro ac hg c9 hbox hb;have am:=gN bz hg;have an:=gN bz hg;have E:=lN (g:=A) hg bk;have I:=rN (g:=A) hg bk;replace B:=kN (g:=A) hb bk;have D:=zaa.mk hbox;replace HB:=bN bz hb;clear hb hbox hg;have cN:=E.out;have cO:=I.out;obtain⟨b0,b1,b2,b3⟩:=cz2 B;obtain⟨b4,b5,b6,b7,b8,ca,cb,cc,cd,ce,cf,cg,ci,cj,ck,cm⟩:=cz8 D)|((with_reducible refine zac (f:=13) rfl ?_);refine gB Tryz.func13 (zby.calls k J K a1 M O U X Y Z aa ab af ad _ A4.out) ?_;intro da hb;replace B:=kN (g:=A) hb bk;replace D:=kN (g:=ac) hb bk;replace HB:=bN bz hb;clear hb;obtain⟨cn,co,cp,cq⟩:=cz2 B;obtain⟨cr,ct,cu,cv,cw,cx,cy,cz,cA,cB,cC,cD,cF,cG,cH,cI⟩:=cz8 D)|((with_reducible refine zac (f:=14) rfl ?_);refine gB Tryz.func14 (zaN.calls k J K a1 M O U X Y Z aa ab ag ae _ A5.out) ?_;intro db hb;replace B:=kN (g:=A) hb bk;replace D:=kN (g:=ac) hb bk;replace HB:=bN bz hb;clear hb));go_ret;exact⟨ez,bz⟩
 replace H:=hE H c6;have ao:(af.toList==ag.toList)=true:=beq_iff_eq.mpr c6;have ap:(af.toList !=ag.toList)=false:=bne_eq_false_iff_eq.mpr c6;clear c6;by_cases c7:(ad==ae)=true
 (·replace H:=hE H c7;have ar:(ad==ae)=true:=c7;(try(have au:decide (ad=ae)=true:=by simpa using c7));(try(have av:(ad==ae)=true:=by simpa using c7));clear c7;replace H:=bs H;obtain⟨aj,A8,H⟩:=H;obtain rfl:=Option.some.inj H;go_enter Tryz.func7,Tryz.ntmps7;go_wp2_with (first|((with_reducible refine zae (N:=3) rfl ?_);refine zaf rfl (N:=3) rfl (cs:=#[.int .u64 J,.int .u64 K]) (t:=34) gz ?_;intro A hg w9 hbox hb;have ak:=gN bz hg;have al:=gN bz hg;have B:=zaa.mk hbox;replace HB:=bN bz hb;clear hb hbox hg)|((with_reducible refine zae (N:=5) rfl ?_);refine zaf rfl (N:=5) rfl (cs:=#[.bool M,.bool O,.bool U,.bool X,.bool Y,.int .i64 Z,.int .i64 aa,.int .i32 ab]) (t:=26) gz ?_;intro ac hg cS hbox hb;have am:=gN bz hg;have an:=gN bz hg;have E:=lN (g:=A) hg bk;have I:=rN (g:=A) hg bk;replace B:=kN (g:=A) hb bk;have D:=zaa.mk hbox;replace HB:=bN bz hb;clear hb hbox hg;have cJ:=E.out;have cK:=I.out;obtain⟨aw,ax,ay,az⟩:=cz2 B;obtain⟨aA,aB,aC,aD,aE,aF,aG,aH,aI,aJ,aK,aL,aM,aN,aO,aP⟩:=cz8 D)|((with_reducible refine zac (f:=13) rfl ?_);refine gB Tryz.func13 (zby.calls k J K a1 M O U X Y Z aa ab af ad _ A4.out) ?_;intro cT hb;replace B:=kN (g:=A) hb bk;replace D:=kN (g:=ac) hb bk;replace HB:=bN bz hb;clear hb;obtain⟨aQ,aR,aS,aT⟩:=cz2 B;obtain⟨aU,aV,aW,aX,aY,aZ,a2,a3,a4,a5,a6,a7,a8,a9,ba,bb⟩:=cz8 D)|((with_reducible refine zac (f:=14) rfl ?_);refine gB Tryz.func14 (zaN.calls k J K a1 M O U X Y Z aa ab ag ae _ A5.out) ?_;intro cV hb;replace B:=kN (g:=A) hb bk;replace D:=kN (g:=ac) hb bk;replace HB:=bN bz hb;clear hb)|(go_at_call 15;(with_reducible refine(zbX.calls k aj _ A8.out).mono ?_);rintro e cW ⟨rfl,hb⟩;replace B:=kN (g:=A) hb bk;replace D:=kN (g:=ac) hb bk;replace HB:=bN bz hb;clear hb));go_ret;exact⟨ez,bz⟩);replace H:=hN H c7;(have ar:(ad==ae)=false:=by simpa using c7);(try(have au:decide (ad=ae)=false:=by simpa using c7));(try(have av:(ad==ae)=false:=by simpa using c7));(try(have cR: ¬(ad=ae):=by simpa using c7));clear c7;obtain rfl:=Option.some.inj H;go_enter Tryz.func7,Tryz.ntmps7;go_wp2_with (first|((with_reducible refine zae (N:=3) rfl ?_);refine zaf rfl (N:=3) rfl (cs:=#[.int .u64 J,.int .u64 K]) (t:=34) gz ?_;intro A hg cX hbox hb;have ak:=gN bz hg;have al:=gN bz hg;have B:=zaa.mk hbox;replace HB:=bN bz hb;clear hb hbox hg)|((with_reducible refine zae (N:=5) rfl ?_);refine zaf rfl (N:=5) rfl (cs:=#[.bool M,.bool O,.bool U,.bool X,.bool Y,.int .i64 Z,.int .i64 aa,.int .i32 ab]) (t:=26) gz ?_;intro ac hg cY hbox hb;have am:=gN bz hg;have an:=gN bz hg;have E:=lN (g:=A) hg bk;have I:=rN (g:=A) hg bk;replace B:=kN (g:=A) hb bk;have D:=zaa.mk hbox;replace HB:=bN bz hb;clear hb hbox hg;have cL:=E.out;have cM:=I.out;obtain⟨bd,be,bf,bg⟩:=cz2 B;obtain⟨bh,bi,bj,bl,bm,bn,bo,bp,bq,br,bu,bv,bw,bA,bB,bC⟩:=cz8 D)|((with_reducible refine zac (f:=13) rfl ?_);refine gB Tryz.func13 (zby.calls k J K a1 M O U X Y Z aa ab af ad _ A4.out) ?_;intro cZ hb;replace B:=kN (g:=A) hb bk;replace D:=kN (g:=ac) hb bk;replace HB:=bN bz hb;clear hb;obtain⟨bD,bE,bG,bH⟩:=cz2 B;obtain⟨bI,bJ,bK,bL,bM,bO,bP,bQ,bR,bS,bU,bV,bW,bX,bY,bZ⟩:=cz8 D)|((with_reducible refine zac (f:=14) rfl ?_);refine gB Tryz.func14 (zaN.calls k J K a1 M O U X Y Z aa ab ag ae _ A5.out) ?_;intro c5 hb;replace B:=kN (g:=A) hb bk;replace D:=kN (g:=ac) hb bk;replace HB:=bN bz hb;clear hb));go_ret;exact⟨ez,bz⟩
end
end Go.Proofs.YtilidabdbhaljaaGreatDoor.Fn
end
section
namespace Go.Proofs.YtilidabdbhaljaaGreatDoor.Pure
open Go.RowKit Go.Proofs.YtilidabdbhaljaaGreatDoorW.PrintWords Go.Proofs.YtilidabdbhaljaaGreatDoorW.PrintLast Go.Proofs.YtilidabdbhaljaaGreatDoorW.PrintMore Go.Proofs.YtilidabdbhaljaaGreatDoor.Fn
theorem zh8(wide:Bool){a b:Nat}(ha:a<18446744073709551616)(hb:b<18446744073709551616)(plus minus sharp space zero:Bool)(wid prec v:Int):
 Ev (λk=>zaN.j1 k (a:Int) (b:Int) (szB wide) plus minus sharp space zero wid prec v) (cplxS wide a b plus minus sharp space zero wid prec v):=by
 have f1:=zgX wide ha plus minus sharp space zero wid prec v;have f2:=zgX wide hb true minus sharp space zero wid prec v;refine Ev.step (λk=>by simp only[zaN.j1];rfl) ?_;unfold cplxS;by_cases c:codeV v=0
 ·rw[if_pos c];rw[zgP _ _ _ _ _ _ _ _ _ _ c] at f1 f2;refine Ev.bind f1 ?_;refine Ev.bind f2 ?_;exact eN (by simp) (Ev.now _)
 ·rw[if_neg c];rw[zfw _ _ _ _ _ _ _ _ _ _ c] at f1 f2;have l1:=zel wide a plus minus sharp space zero wid prec v;have l2:=zel wide b true minus sharp space zero wid prec v;generalize textL wide a plus minus sharp space zero wid prec v=A at*
  generalize textL wide b true minus sharp space zero wid prec v=B at*
  refine Ev.bind f1 ?_;refine Ev.bind f2 ?_;refine eP (by first|rfl|trivial) ?_;refine eP (by first|rfl|trivial) ?_;show Ev (λk=>if 1+(S A).size<=9223372036854775807 then(if((⟨#[40]⟩:ByteArray)++S A).size+(S B).size<=9223372036854775807 then(if(((⟨#[40]⟩:ByteArray)++S A)++S B).size+2<=9223372036854775807 then some ((((⟨#[40]⟩:ByteArray)++S A)++S B)++(⟨#[105,41]⟩:ByteArray),true) else none) else none) else none) _;rw[show(⟨#[40]⟩:ByteArray)=S [40] from rfl,show(⟨#[105,41]⟩:ByteArray)=S [105,41] from rfl,zbr,zbr,zbr];refine eP (by rw[zas];omega) ?_;refine eP (by rw[zas,zas,List.length_append,List.length_singleton];omega) ?_;refine eP (by rw[zas,List.length_append,List.length_append,List.length_singleton];omega) ?_;rw[show([40]++A++B)++[105,41]=[40]++(A++(B++[105,41])) by simp];exact Ev.now _
theorem zfy(wide:Bool){a b:Nat}(ha:a<18446744073709551616)(hb:b<18446744073709551616)(plus minus sharp space zero:Bool)(wid prec v:Int):
 Ev (λk=>zaN.f k (a:Int) (b:Int) (szC wide) plus minus sharp space zero wid prec v) (cplxS wide a b plus minus sharp space zero wid prec v):=by
 have h:=zh8 wide ha hb plus minus sharp space zero wid prec v;unfold zaN.f;cases wide with
 |false=>
  refine eP rfl ?_;refine Ev.step (λk=>by simp only[zaN.j0];rfl) ?_;exact eN (by decide) h
 |true=>
  refine eN (by decide) ?_;refine Ev.step (λk=>by simp only[zaN.j0];rfl) ?_;exact eP rfl h
theorem zh9(a b:Int){n:Int}(h1:n≠64)(h2:n≠128)(plus minus sharp space zero:Bool)(wid prec v:Int):Ev (λk=>zaN.f k a b n plus minus sharp space zero wid prec v) (⟨#[]⟩,false):=by
 unfold zaN.f;refine eN h1 ?_;refine Ev.step (λk=>by simp only[zaN.j0];rfl) ?_;refine eN h2 ?_;refine Ev.step (λk=>by simp only[zaN.j1];rfl) ?_;refine Ev.bind (zfi a (by decide) (by decide) plus minus sharp space zero wid prec v) ?_;refine Ev.bind (zfi b (by decide) (by decide) true minus sharp space zero wid prec v) ?_;exact eN (by simp) (Ev.now _)
theorem CplxTexts: ∀(A:Int) (B:Int) (a1:Int) (J:Bool) (K:Bool) (M:Bool) (O:Bool) (U:Bool) (D:Int) (E:Int) (I:Int),(Lit.int .u64 A).wf=true->(Lit.int .u64 B).wf=true->(Lit.int .i64 a1).wf=true->(Lit.int .i64 D).wf=true->(Lit.int .i64 E).wf=true->(Lit.int .i32 I).wf=true-> ∃k,platenlaw07_CplxTexts.f k A B a1 J K M O U D E I=some true:=by
 intro x y n p m s sp z wid prec v hx hy _ _ _ _;obtain⟨a,rfl,ha⟩:=wf_u64 hx;obtain⟨b,rfl,hb⟩:=wf_u64 hy;refine Ev.rounds (g:=λk=>platenlaw07_CplxTexts.f k (a:Int) (b:Int) n p m s sp z wid prec v) ?_;unfold platenlaw07_CplxTexts.f;have fin: ∀{f g:Nat->Option (ByteArray×Bool)} {r:ByteArray×Bool},Ev f r->Ev g r->Ev (λk=>(f k).bind λx=>((g k).bind λy=>(if x.1.toList=y.1.toList then(if(x.2==y.2)=true then((zbX.f k).bind λt=>(some t)) else(some false)) else(some false)))) true:=by
  intro f g r hf hg;refine Ev.bind hf (Ev.bind hg ?_);refine eP rfl ?_;exact eP (beq_self_eq_true _) zkp
 by_cases c1:n=64
 ·subst c1;exact fin (zeP false ha hb p m s sp z wid prec v) (zfy false ha hb p m s sp z wid prec v)
 ·by_cases c2:n=128
  ·subst c2;exact fin (zeP true ha hb p m s sp z wid prec v) (zfy true ha hb p m s sp z wid prec v)
  ·exact fin (zi5 (a:Int) (b:Int) c1 c2 p m s sp z wid prec v) (zh9 (a:Int) (b:Int) c1 c2 p m s sp z wid prec v)
end Go.Proofs.YtilidabdbhaljaaGreatDoor.Pure
end
