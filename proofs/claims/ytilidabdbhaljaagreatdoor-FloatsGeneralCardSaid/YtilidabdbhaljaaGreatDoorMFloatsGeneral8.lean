/- The law FloatsGeneral: the last walks through its functions and its plain law (part 8). -/
import Derived.Test.YtilidabdbhaljaaGreatDoorMFloatsBits7
import Derived.Handy
set_option linter.unusedVariables false
set_option linter.unusedSimpArgs false
section
namespace Go.Proofs.YtilidabdbhaljaaGreatDoor.Pure
open Go.RowKit Go.Proofs.YtilidabdbhaljaaGreatDoorW.PrintWords Go.Proofs.YtilidabdbhaljaaGreatDoorW.PrintLast Go.Proofs.YtilidabdbhaljaaGreatDoorW.PrintMore Go.Proofs.YtilidabdbhaljaaGreatDoor.Fn
def atN(l:List UInt8)(i:Int):UInt8:=if i<0 then 48 else l.getD i.toNat 48
def rowL(l:List UInt8):Int->Nat->List UInt8
  |_,0=>[]
  |i,n+1=>atN l i::rowL l (i+1) n
theorem zhJ(l:List UInt8): ∀(n:Nat) (i:Int),(rowL l i n).length=n
 |0,_=>rfl
 |n+1,i=>by rw[rowL,List.length_cons,zhJ l n]
theorem zeP(l:List UInt8)(K:Nat): ∀(n i:Nat),i+n<=l.length+K->rowL l (i:Int) n=((l++zsL K).drop i).take n
 |0,i,_=>by rw[rowL,List.take_zero]
 |n+1,i,h=>by
  have hi:i<(l++zsL K).length:=by rw[List.length_append,zbC];omega
  have ha:atN l (i:Int)=(l++zsL K)[i]:=by
   unfold atN;rw[if_neg (by omega),Int.toNat_natCast,List.getD_eq_getElem?_getD];by_cases c:i<l.length
   ·rw[List.getElem?_eq_getElem c,List.getElem_append_left c];rfl
   ·rw[List.getElem?_eq_none (by omega),List.getElem_append_right (by omega)];unfold zsL;rw[List.getElem_replicate];rfl
  rw[rowL,ha,List.drop_eq_getElem_cons hi,List.take_succ_cons]
  congr 1
  exact zeP l K n (i+1) (by omega)
theorem zhK(l:List UInt8): ∀(j n:Nat),rowL l (-(j:Int)) (j+n)=zsL j++rowL l 0 n
 |0,n=>by rw[Nat.zero_add];rfl
 |j+1,n=>by
  rw[show j+1+n=(j+n)+1 by omega,rowL,show-((j+1:Nat):Int)+1= -(j:Int) by omega,zhK l j n]
  have e:atN l (-((j+1:Nat):Int))=48:=by unfold atN;rw[if_pos (by omega)]
  rw[e]
  rfl
theorem zfM: ∀(n:Nat) (i:Int),rowL [] i n=zsL n
 |0,_=>rfl
 |n+1,i=>by
  rw[rowL,zfM n]
  have e:atN [] i=48:=by unfold atN;split<;>rfl
  rw[e]
  rfl
theorem zka(l:List UInt8){q x:Int}(hl:l.length<=1000000)(hq: -1000000<=q/\q<=1000000)(hx: -1000000<=x/\x<=1000000):zck.f (S l) q x=some (S [atN l (q-1-x)]):=by
 unfold zck.f atN;rw[w64 (x:=q-1) (by omega) (by omega),w64 (x:=q-1-x) (by omega) (by omega)];obtain⟨i,hi⟩: ∃i,q-1-x=i:=⟨_,rfl⟩;rw[hi];by_cases c:i<0
 ·rw[if_pos c,if_pos c];rfl
 ·rw[if_neg c,if_neg c];obtain⟨n,rfl⟩: ∃n:Nat,i=n:=⟨i.toNat,by omega⟩;rw[Int.toNat_natCast,zay];by_cases d:(n:Int)>=(l.length:Int)
  ·rw[if_pos d,List.getD_eq_getElem?_getD,List.getElem?_eq_none (by omega)];rfl
  ·have hn:n<l.length:=by omega
   rw[if_neg d,if_pos (by omega),w64 (x:=(n:Int)+1) (by omega) (by omega),if_pos (by omega),if_pos (by omega),show((n:Int)+1).toNat=n+1 by omega,<-S_L ((S l).extract n (n+1)),zdj,L_S,show n+1-n=1 by omega,
    List.drop_eq_getElem_cons hn,List.take_succ_cons,List.take_zero,List.getD_eq_getElem?_getD,List.getElem?_eq_getElem hn]
   rfl
def headL(l:List UInt8)(q:Int):List UInt8:=if firstL (l,q)+1<=0 then [48] else rowL l (q-1-firstL (l,q)) (firstL (l,q)+1).toNat
theorem zhL{l:List UInt8}{q:Int}(hl:l.length<=100000)(hq: -100000<=q/\q<=100000)(dot:Bool)(A:List UInt8)(hA:A.length<=200000){P:Nat}(hP:P<=100000): ∀(n:Nat) (acc:List UInt8),n<=P->acc.length+n<=200000->
 Ev (λk=>zar.l1 k (P:Int) dot (S A) (S acc) ((P:Int)+1-n) (S l) q) (S (ptL dot A (acc++rowL l (q+P-n) n)))
 |0,acc,hn,ha=>by
  refine Ev.step (λk=>by simp only[zar.l1];rfl) ?_
  refine Ev.congr (λk=>if_neg (by omega)) ?_
  rw[zfb dot (by omega)]
  simp only[Option.bind_some]
  have h1:=zc1 dot A acc
  have h2:(S A).size+(S (ptB dot acc)).size=(ptL dot A acc).length:=by rw[zay,zay,<-List.length_append,zf1]
  refine Ev.congr (λk=>if_pos (by rw[h2];omega)) ?_
  rw[zby,zf1,rowL,List.append_nil]
  exact Ev.now _
 |n+1,acc,hn,ha=>by
  refine Ev.step (λk=>by simp only[zar.l1];rfl) ?_
  refine Ev.congr (λk=>if_pos (by omega)) ?_
  rw[w64 (x:= -((P:Int)+1-((n+1:Nat):Int))) (by omega) (by omega),zka l (by omega) (by omega) (by omega)]
  simp only[Option.bind_some]
  refine Ev.congr (λk=>if_pos (by rw[zay,zay,List.length_singleton];omega)) ?_
  rw[zby,w64 (x:=(P:Int)+1-((n+1:Nat):Int)+1) (by omega) (by omega),show(P:Int)+1-((n+1:Nat):Int)+1=(P:Int)+1-n by omega]
  have h:=zhL hl hq dot A hA hP n (acc++[atN l (q-1- -((P:Int)+1-((n+1:Nat):Int)))]) (by omega) (by simp;omega)
  have e:acc++rowL l (q+P-((n+1:Nat):Int)) (n+1)=(acc++[atN l (q-1- -((P:Int)+1-((n+1:Nat):Int)))])++rowL l (q+P-n) n:=by
   rw[rowL,show q+(P:Int)-((n+1:Nat):Int)+1=q+P-n by omega,show q-1- -((P:Int)+1-((n+1:Nat):Int))=q+(P:Int)-((n+1:Nat):Int) by omega,List.append_assoc];rfl
  rw[e]
  exact h
theorem zhM{r:ByteArray}{l:List UInt8}{q:Int}(hl:l.length<=100000)(hq: -100000<=q/\q<=100000)(dot:Bool){P:Int}: ∀(n:Nat) (acc:List UInt8) (x:Int),x+1=n->n<=100000->acc.length+n<=200000->
 Ev (λk=>zar.j1 k P dot (S (if acc++rowL l (q-1-x) n=[] then [48] else acc++rowL l (q-1-x) n)) (S []) (S l) q) r->
 Ev (λk=>zar.l0 k P dot (S acc) (S []) x (S l) q) r
 |0,acc,x,hx,hn,ha,h=>by
  rw[rowL,List.append_nil] at h
  refine Ev.step (λk=>by simp only[zar.l0];rfl) ?_
  refine Ev.congr (λk=>if_neg (by omega)) ?_
  by_cases c:acc=[]
  ·rw[if_pos c] at h
   exact Ev.congr (λk=>if_pos ((zbB acc).2 c)) h
  ·rw[if_neg c] at h
   exact Ev.congr (λk=>if_neg (λe=>c ((zbB acc).1 e))) h
 |n+1,acc,x,hx,hn,ha,h=>by
  refine Ev.step (λk=>by simp only[zar.l0];rfl) ?_
  refine Ev.congr (λk=>if_pos (by omega)) ?_
  rw[zka l (by omega) (by omega) (by omega)]
  simp only[Option.bind_some]
  refine Ev.congr (λk=>if_pos (by rw[zay,zay,List.length_singleton];omega)) ?_
  rw[zby,w64 (x:=x-1) (by omega) (by omega)]
  refine zhM hl hq dot n (acc++[atN l (q-1-x)]) (x-1) (by omega) (by omega) (by simp;omega) ?_
  have e:acc++rowL l (q-1-x) (n+1)=(acc++[atN l (q-1-x)])++rowL l (q-1-(x-1)) n:=by
   rw[rowL,show q-1-x+1=q-1-(x-1) by omega,List.append_assoc];rfl
  rw[e] at h
  exact h
theorem zgi{l:List UInt8}{q:Int}(hl:l.length<=10000)(hq: -10000<=q/\q<=10000)(dot:Bool){P:Nat}(hP:P<=100000):
 Ev (λk=>zar.f k (S l) q (P:Int) dot) (S (ptL dot (headL l q) (rowL l q P))):=by
 (have hf: -10001<=firstL (l,q)/\firstL (l,q)<=10000:=by unfold firstL;split<;>omega);unfold zar.f;rw[zeO l (by omega)];simp only[Option.bind_some];show Ev (λk=>zar.l0 k (P:Int) dot (S []) (S []) (firstL (l,q)) (S l) q) _;have fin: ∀A:List UInt8,A.length<=200000->Ev (λk=>zar.j1 k (P:Int) dot (S A) (S []) (S l) q) (S (ptL dot A (rowL l q P))):=by
  intro A hA;refine Ev.step (λk=>by simp only[zar.j1];rfl) ?_;have h:=zhL (l:=l) (q:=q) (by omega) (by omega) dot A hA hP P [] (Nat.le_refl _) (by simp;omega);rw[show(P:Int)+1-(P:Int)=1 by omega,show q+(P:Int)-(P:Int)=q by omega,List.nil_append] at h;exact h
 unfold headL;generalize firstL (l,q)=x at*
 by_cases c:x+1<=0
 ·rw[if_pos c];refine Ev.step (λk=>by simp only[zar.l0];rfl) ?_;refine Ev.congr (λk=>if_neg (by omega)) ?_;refine Ev.congr (λk=>if_pos ((zbB []).2 rfl)) ?_;exact fin [48] (by decide)
 ·rw[if_neg c];refine zhM (by omega) (by omega) dot (x+1).toNat [] x (by omega) (by omega) (by simp;omega) ?_;have hr:=zhJ l (x+1).toNat (q-1-x);rw[List.nil_append,if_neg (λe=>by rw[e] at hr;simp at hr;omega)];exact fin _ (by omega)
theorem zhN{l:List UInt8}{n:Nat}(h:l.length<=n):l.take n=l:=List.take_of_length_le h
theorem zf2{l:List UInt8}{q:Int}(hn:l≠[])(dot:Bool)(z:Nat):ptL dot (headL l q) (rowL l q (((l.length+z:Nat):Int)-q).toNat)=aroundL dot (l++zsL z) q:=by
 unfold headL aroundL firstL;rw[if_neg hn];(have hlen:(l++zsL z).length=l.length+z:=by rw[List.length_append,zbC]);by_cases c:q<=0
 ·rw[if_pos (by omega),if_pos c];congr 1;obtain⟨j,hj⟩: ∃j:Nat,q= -(j:Int):=⟨(-q).toNat,by omega⟩;subst hj;rw[show(((l.length+z:Nat):Int)- -(j:Int)).toNat=j+(l.length+z) by omega,zhK,show(- -(j:Int)).toNat=j by omega];congr 1;have h:=zeP l z (l.length+z) 0 (by omega);rw[show((0:Nat):Int)=0 from rfl,List.drop_zero,zhN (by omega)] at h;exact h
 ·rw[if_neg (by omega),if_neg c];obtain⟨j,hj⟩: ∃j:Nat,q=(j:Int):=⟨q.toNat,by omega⟩;subst hj;rw[show(j:Int)-1-((j:Int)-1)=((0:Nat):Int) by omega,show((j:Int)-1+1).toNat=j by omega,Int.toNat_natCast];have hM:fillL (l++zsL z) (j:Int)=l++zsL (z+(j-(l.length+z))):=by
   unfold fillL;rw[hlen,List.append_assoc];congr 1;unfold zsL;rw[List.replicate_append_replicate];congr 1;omega
  (have hMl:(l++zsL (z+(j-(l.length+z)))).length=l.length+(z+(j-(l.length+z))):=by rw[List.length_append,zbC]);have h1:=zeP l (z+(j-(l.length+z))) j 0 (by omega);rw[List.drop_zero] at h1;have h2:=zeP l (z+(j-(l.length+z))) (((l.length+z:Nat):Int)-(j:Int)).toNat j (by omega);rw[h1,h2,hM];congr 1;refine zhN ?_;rw[List.length_drop,hMl];omega
theorem ziu(q:Int)(dot:Bool)(P:Nat):ptL dot (headL [] q) (rowL [] q P)=ptL dot [48] (zsL P):=by
 unfold headL firstL;rw[if_pos rfl,if_neg (by decide),zfM,zfM];rfl
def HexD(c:UInt8):Prop:=(48<=c.toNat/\c.toNat<=57)\/(97<=c.toNat/\c.toNat<=102)
def AllH(l:List UInt8):Prop:= ∀c∈l,HexD c
def hd(c:UInt8):Nat:=if c.toNat<=57 then c.toNat-48 else c.toNat-87
theorem znu{c:UInt8}(h:HexD c):hd c<16:=by
 unfold hd;unfold HexD at h;split<;>omega
def hvF(a:Nat):List UInt8->Nat
  |[]=>a
  |c::l=>hvF (16*a+hd c) l
theorem zgj: ∀(l:List UInt8) (a:Nat),hvF a l=a*16^l.length+hvF 0 l
 |[],a=>by simp[hvF]
 |c::l,a=>by
  rw[hvF,zgj l,hvF,zgj l (16*0+hd c),List.length_cons,Nat.pow_succ]
  generalize 16^l.length=y
  generalize hvF 0 l=z
  rw[Nat.mul_zero,Nat.zero_add,Nat.add_mul,Nat.mul_comm 16 a,Nat.mul_assoc,Nat.mul_comm 16 y]
  omega
theorem ziv: ∀(l b:List UInt8) (a:Nat),hvF a (l++b)=hvF (hvF a l) b
 |[],b,a=>rfl
 |c::l,b,a=>by rw[List.cons_append,hvF,hvF,ziv l]
theorem zfc{n:Nat}(h:n<16):hd (dch n)=n/\HexD (dch n):=by
 unfold hd dch HexD;by_cases c:n<10
 ·rw[if_pos c,UInt8.toNat_ofNat'];rw[Nat.mod_eq_of_lt (by omega),if_pos (by omega)];exact⟨by omega,.inl ⟨by omega,by omega⟩⟩
 ·rw[if_neg c,UInt8.toNat_ofNat'];rw[Nat.mod_eq_of_lt (by omega),if_neg (by omega)];exact⟨by omega,.inr ⟨by omega,by omega⟩⟩
theorem zlt: ∀k n,n<16^(k+1)->hvF 0 (bF 16 k n)=n
 |0,n,h=>by
  show 16*0+hd (dch (n%16))=n
  rw[(zfc (Nat.mod_lt _ (by decide))).1]
  simp at h
  omega
 |k+1,n,h=>by
  have hm:=(zfc (Nat.mod_lt n (show 0<16 by decide))).1
  unfold bF
  split
  ·show 16*0+hd (dch (n%16))=n
   rw[hm]
   omega
  ·rw[ziv,zlt k (n / 16) (by rw[Nat.pow_succ] at h;omega)]
   show 16*(n / 16)+hd (dch (n%16))=n
   rw[hm]
   omega
theorem ziw: ∀k n,AllH (bF 16 k n)
 |0,n=>λc hc=>by
  rw[bF,List.mem_singleton] at hc
  rw[hc]
  exact(zfc (Nat.mod_lt _ (by decide))).2
 |k+1,n=>λc hc=>by
  unfold bF at hc
  split at hc
  ·rw[List.mem_singleton] at hc
   rw[hc]
   exact(zfc (Nat.mod_lt _ (by decide))).2
  ·rcases List.mem_append.1 hc with hc|hc
   ·exact ziw k _ c hc
   ·rw[List.mem_singleton] at hc
    rw[hc]
    exact(zfc (Nat.mod_lt _ (by decide))).2
theorem zf3: ∀(f m:Nat),m≠0->m<2^f->1<=Lib.bitLenAux f m/\2^(Lib.bitLenAux f m-1)<=m/\m<2^Lib.bitLenAux f m
 |0,m,h0,h=>by simp at h;omega
 |f+1,m,h0,h=>by
  unfold Lib.bitLenAux
  rw[if_neg h0]
  by_cases c:m / 2=0
  ·have:m=1:=by omega
   subst this
   have:Lib.bitLenAux f (1 / 2)=0:=by cases f<;>rfl
   rw[this]
   decide
  ·obtain⟨h1,h2,h3⟩:=zf3 f (m / 2) c (by rw[Nat.pow_succ] at h;omega)
   generalize Lib.bitLenAux f (m / 2)=q at*
   obtain⟨r,rfl⟩: ∃r,q=r+1:=⟨q-1,by omega⟩
   rw[show r+1-1=r by omega] at h2
   rw[show 1+(r+1)-1=r+1 by omega,show 1+(r+1)=r+1+1 by omega,Nat.pow_succ 2 (r+1)]
   rw[Nat.pow_succ] at h3 ⊢
   generalize 2^r=y at*
   omega
def padH:Nat->Nat->List UInt8
  |0,_=>[]
  |k+1,n=>padH k (n / 16)++[dch (n%16)]
theorem zc6: ∀k n,(padH k n).length=k
 |0,_=>rfl
 |k+1,n=>by rw[padH,List.length_append,zc6 k,List.length_singleton]
theorem zix(k:Nat):zsL k++[48]=zsL (k+1):=by unfold zsL;rw[List.replicate_succ']
theorem zfd: ∀k,padH k 0=zsL k
 |0=>rfl
 |k+1=>by
  rw[padH,Nat.zero_div,zfd k]
  exact zix k
theorem zfm: ∀(f k n:Nat),1<=k->k<=f+1->n<16^k->zsL (k-(bF 16 f n).length)++bF 16 f n=padH k n
 |0,k,n,h1,h2,h=>by
  obtain rfl:k=1:=by omega
  rfl
 |f+1,k,n,h1,h2,h=>by
  obtain⟨q,rfl⟩: ∃q,k=q+1:=⟨k-1,by omega⟩
  rw[padH]
  unfold bF
  by_cases c:n / 16=0
  ·rw[if_pos c,c,zfd,List.length_singleton,Nat.add_sub_cancel]
  ·rw[if_neg c,List.length_append,List.length_singleton,<-List.append_assoc,show q+1-((bF 16 f (n / 16)).length+1)=q-(bF 16 f (n / 16)).length by omega]
   have hq:1<=q:=by
    cases q with
    |zero=>rw[Nat.pow_one] at h;omega
    |succ q=>omega
   rw[Nat.pow_succ] at h
   rw[zfm f q (n / 16) hq (by omega) (by omega)]
theorem zfN(a n:Nat): ∀b,padH (a+b) (n*16^b)=padH a n++zsL b
 |0=>by rw[Nat.pow_zero,Nat.mul_one];exact(List.append_nil _).symm
 |b+1=>by
  have e1:n*16^(b+1) / 16=n*16^b:=by rw[Nat.pow_succ,<-Nat.mul_assoc];exact Nat.mul_div_cancel _ (by decide)
  have e2:n*16^(b+1)%16=0:=by rw[Nat.pow_succ,<-Nat.mul_assoc];exact Nat.mul_mod_left _ _
  show padH (a+b+1) (n*16^(b+1))=_
  rw[padH,e1,e2,zfN a n b,List.append_assoc]
  exact congrArg _ (zix b)
theorem zfO{n:Nat}(hn:n<=18446744073709551615):sixL n=padH 16 n:=zfm 63 16 n (by decide) (by decide) (Nat.lt_of_le_of_lt hn (by decide))
theorem zkb: ∀(l:List UInt8),AllH l->hvF 0 l<16^l.length
 |[],_=>by decide
 |c::l,h=>by
  have hc:=znu (h c (by simp))
  have ih:=zkb l (λx hx=>h x (by simp[hx]))
  rw[hvF,zgj,List.length_cons,Nat.pow_succ]
  generalize 16^l.length=y at*
  have:(16*0+hd c)*y<=15*y:=Nat.mul_le_mul_right _ (by omega)
  omega
theorem zmr{n p:Nat}(hn:n<=18446744073709551615)(h:16^p<=n):p<(bT 16 n).length:=by
 refine Classical.byContradiction λc=>?_;have h1:=zkb (bT 16 n) (ziw 63 n);have h2:hvF 0 (bT 16 n)=n:=zlt 63 n (Nat.lt_of_le_of_lt hn (by decide));have h3:16^(bT 16 n).length<=16^p:=Nat.pow_le_pow_right (by decide) (by omega);omega
theorem ziy{lead s:List UInt8}(hl:lead.length<=10)(hs:s.length<=5000){x:Int}(hx: -100000<=x/\x<=100000)(dot:Bool):
 Ev (λk=>((zaL.f (S s) dot).bind λA=>(if((⟨#[48,120]⟩:ByteArray)++S lead).size+A.size<=9223372036854775807 then(if(((⟨#[48,120]⟩:ByteArray)++S lead)++A).size+1<=9223372036854775807 then((zaK.f k x 2).bind λB=>(if((((⟨#[48,120]⟩:ByteArray)++S lead)++A)++(⟨#[112]⟩:ByteArray)).size+B.size<=9223372036854775807 then(some (((((⟨#[48,120]⟩:ByteArray)++S lead)++A)++(⟨#[112]⟩:ByteArray))++B)) else(none))) else(none)) else(none)))) (S (hexEnd dot false lead s x)):=by
 have hpl:=zcW [] (e:=x) (least:=2) (by decide);(have hb:(ptB dot s).length<=s.length+1:=by unfold ptB;split<;>simp);rw[zfb dot (by omega),show(⟨#[48,120]⟩:ByteArray)=S [48,120] from rfl,show(⟨#[112]⟩:ByteArray)=S [112] from rfl];simp only[Option.bind_some];rw[zby];(have h1:([48,120]++lead).length=lead.length+2:=by simp);refine Ev.congr (λk=>if_pos (by rw[zay,zay,h1];omega)) ?_;rw[zby];(have h2:(([48,120]++lead)++ptB dot s).length=lead.length+2+(ptB dot s).length:=by rw[List.length_append,h1]);refine Ev.congr (λk=>if_pos (by rw[zay,h2];omega)) ?_;refine Ev.bind (zfa hx (by decide)) ?_;rw[zby];(have h3:((([48,120]++lead)++ptB dot s)++[112]).length=lead.length+2+(ptB dot s).length+1:=by rw[List.length_append,h2];rfl);refine Ev.congr (λk=>if_pos (by rw[zay,zay,h3];simp at hpl;omega)) ?_;rw[zby];have e:((([48,120]++lead)++ptB dot s)++[112])++powL [] x 2=hexEnd dot false lead s x:=by
  unfold hexEnd;rw[if_neg (by simp),<-zf1,<-zfL [112]];simp only[List.append_assoc]
 rw[e];exact Ev.now _
theorem zeQ{lead s:List UInt8}(hl:lead.length<=10)(hs:s.length<=5000){x:Int}(hx: -100000<=x/\x<=100000)(dot:Bool):
 Ev (λk=>(if 2+(S lead).size<=9223372036854775807 then((zaL.f (S s) dot).bind λA=>(if((⟨#[48,120]⟩:ByteArray)++S lead).size+A.size<=9223372036854775807 then(if(((⟨#[48,120]⟩:ByteArray)++S lead)++A).size+1<=9223372036854775807 then((zaK.f k x 2).bind λB=>(if((((⟨#[48,120]⟩:ByteArray)++S lead)++A)++(⟨#[112]⟩:ByteArray)).size+B.size<=9223372036854775807 then(some (((((⟨#[48,120]⟩:ByteArray)++S lead)++A)++(⟨#[112]⟩:ByteArray))++B)) else(none))) else(none)) else(none))) else(none))) (S (hexEnd dot false lead s x)):=
 Ev.congr (λk=>if_pos (by rw[zay];omega)) (ziy hl hs hx dot)
theorem zgO{lead:List UInt8}(hl:lead.length<=10){x:Int}(hx: -100000<=x/\x<=100000)(dot:Bool): ∀(n:Nat) (s:List UInt8),s.length=n->n<=5000->
 Ev (λk=>zag.l1 k dot (S lead) x (S s)) (S (hexEnd dot false lead (rz s) x))
 |0,s,hs,_=>by
  obtain rfl:=List.eq_nil_of_length_eq_zero hs
  refine Ev.step (λk=>by simp only[zag.l1];rfl) ?_
  refine Ev.congr (λk=>if_pos ((zbB []).2 rfl)) ?_
  exact zeQ hl (by decide) hx dot
 |n+1,s,hs,hn=>by
  rcases List.eq_nil_or_concat s with e|⟨t,c,e⟩
  ·rw[e] at hs;cases hs
  rw[List.concat_eq_append] at e
  subst e
  have hlen:(t++[c]).length=t.length+1:=by simp
  have hw:wrap64 (((S (t++[c])).size:Int)-1)=(t.length:Int):=by rw[zay,hlen,w64 (by omega) (by omega)];omega
  refine Ev.step (λk=>by simp only[zag.l1];rfl) ?_
  refine Ev.congr (λk=>if_neg (λe=>by rw[zbB] at e;simp at e)) ?_
  rw[hw]
  refine Ev.congr (λk=>if_pos (by omega)) ?_
  refine Ev.congr (λk=>if_pos (by rw[zay,hlen];omega)) ?_
  have hb:bt (S (t++[c])) (t.length:Int)=(c.toNat:Int):=by
   rw[bt_L (S (t++[c])) t.length (by rw[zay,hlen];omega)];simp[L_S]
  rw[hb]
  by_cases d:c.toNat=48
  ·refine Ev.congr (λk=>if_pos (by omega)) ?_
   refine Ev.congr (λk=>if_pos (by rw[zay,hlen];omega)) ?_
   rw[Int.toNat_natCast,zcP,List.take_left' rfl,zcI d]
   exact zgO hl hx dot n t (by omega) (by omega)
  ·refine Ev.congr (λk=>if_neg (by omega)) ?_
   rw[zc8 d]
   exact zeQ hl (by omega) hx dot
def refUp(lead:List UInt8)(part p:Nat):Prop:=
  16^(15-p)<2*(part%16^(15-p))\/(2*(part%16^(15-p))=16^(15-p)/\(if p=0 then lead=[49] else part / 16^(15-p)%2=1))
theorem zms{lead:List UInt8}{part p:Nat}(hp:p<15)(hpart:part<16^15):refUp lead part p↔hexUp lead (16*part) p:=by
 (have hU:(16:Nat)^(15-p)*16^(p+1)=18446744073709551616:=by rw[<-Nat.pow_add,show 15-p+(p+1)=16 by omega]);have hC:0<(16:Nat)^(p+1):=Nat.pow_pos (by decide);have e1:16*part*2^(4*p)%18446744073709551616=part%16^(15-p)*16^(p+1):=by
  rw[<-hU,<-Nat.mul_mod_mul_right];congr 1;rw[Nat.pow_mul,show(2:Nat)^4=16 by decide,Nat.pow_succ,Nat.mul_comm 16 part,Nat.mul_assoc,Nat.mul_comm 16]
 have e2:16*part / 2^(64-4*p)=part / 16^(15-p):=by
  rw[show 64-4*p=4*(16-p) by omega,Nat.pow_mul,show(2:Nat)^4=16 by decide,show 16-p=15-p+1 by omega,Nat.pow_succ,Nat.mul_comm 16 part];exact Nat.mul_div_mul_right _ _ (by decide)
 unfold refUp hexUp;rw[e1,e2];have A:p=0->part / 16^(15-p)%2=0:=by
  intro h;subst h;rw[Nat.div_eq_of_lt hpart]
 generalize 16^(15-p)=U at*
 generalize part%U=r at*
 generalize part / U=K at*
 generalize 16^(p+1)=C at*
 have h1:U<2*r↔9223372036854775808<r*C:=by
  constructor
  ·intro h;have:(U+1)*C<=(2*r)*C:=Nat.mul_le_mul_right _ h;rw[Nat.add_mul,Nat.mul_assoc] at this;omega
  ·intro h;refine Classical.byContradiction λc=>?_;have:(2*r)*C<=U*C:=Nat.mul_le_mul_right _ (by omega);rw[Nat.mul_assoc] at this;omega
 have h2:2*r=U↔r*C=9223372036854775808:=by
  constructor
  ·intro h;rw[<-h,Nat.mul_assoc] at hU;omega
  ·intro h;(have:(2*r)*C=U*C:=by rw[Nat.mul_assoc];omega);exact Nat.eq_of_mul_eq_mul_right hC this
 rw[h1,h2];by_cases c:p=0
 ·rw[if_pos c,A c];simp[c]
 ·rw[if_neg c];simp[c]
theorem ziV{lead:List UInt8}{part p K:Nat}(hp:p<15)(hpart:part<16^15)(hK:K=part / 16^(15-p)+(if hexUp lead (16*part) p then 1 else 0))(dot:Bool)(x:Int):
 K<=16^p/\hexMid dot false lead (16*part) p x=hexEnd dot false lead (if p=0 then [] else if K=16^p then zsL p else padH p K) (if K=16^p then x+1 else x):=by
 have e2:16*part / 2^(64-4*p)=part / 16^(15-p):=by
  rw[show 64-4*p=4*(16-p) by omega,Nat.pow_mul,show(2:Nat)^4=16 by decide,show 16-p=15-p+1 by omega,Nat.pow_succ,Nat.mul_comm 16 part];exact Nat.mul_div_mul_right _ _ (by decide)
 have hlt:part / 16^(15-p)<16^p:=by
  refine Nat.div_lt_of_lt_mul ?_;rw[<-Nat.pow_add,show 15-p+p=15 by omega];exact hpart
 have hk:hexKept lead (16*part) p=K:=by
  unfold hexKept;rw[e2,hK];split<;>rfl
 (have hKle:K<=16^p:=by rw[hK];split<;>omega);refine⟨hKle,?_⟩;(have hP:(2:Nat)^(4*p)=16^p:=by rw[Nat.pow_mul]);have A:0<(16:Nat)^p:=Nat.pow_pos (by decide);(have hQ:(2:Nat)^(64-4*p)=16^(16-p):=by rw[show 64-4*p=4*(16-p) by omega,Nat.pow_mul]);unfold hexMid;dsimp only;rw[hk,hP,hQ];by_cases c:K=16^p
 ·(have ho:0<K / 16^p:=by rw[c,Nat.div_self A];exact Nat.one_pos);rw[if_pos ho,if_pos ho,if_pos c,if_pos c,zfO (by decide),zfd];by_cases d:p=0
  ·rw[if_pos d,if_pos d]
  ·rw[if_neg d,if_neg d];unfold zsL;rw[List.take_replicate,show min p 16=p by omega]
 ·have hz:K / 16^p=0:=Nat.div_eq_of_lt (by omega);rw[hz,if_neg (Nat.lt_irrefl 0),if_neg (Nat.lt_irrefl 0),if_neg c,if_neg c];by_cases d:p=0
  ·rw[if_pos d,if_pos d]
  ·rw[if_neg d,if_neg d];have hm:K*16^(16-p)<18446744073709551616:=by
    have h1:K*16^(16-p)<16^p*16^(16-p):=Nat.mul_lt_mul_of_pos_right (by omega) (Nat.pow_pos (by decide));rw[<-Nat.pow_add,show p+(16-p)=16 by omega] at h1;exact h1
   have h:=zfN p K (16-p);rw[show p+(16-p)=16 by omega] at h;rw[Nat.mod_eq_of_lt hm,zfO (by omega),h,List.take_left' (zc6 p K)]
theorem zkc{lead:List UInt8}(hlead:lead=[48]\/lead=[49]){part p:Nat}(hp:p<15)(hpart:part<1152921504606846976){x:Int}(hx: -90000<=x/\x<=90000)(dot:Bool):
 Ev (λk=>zag.l2 k (p:Int) dot (S lead) x (part:Int) 1 (p:Int)) (S (hexMid dot false lead (16*part) p x)):=by
 (have hl:lead.length<=10:=by rcases hlead with rfl|rfl<;>decide);have A:part<16^15:=Nat.lt_of_lt_of_le hpart (by decide);have D:0<(16:Nat)^(15-p):=Nat.pow_pos (by decide);have J:(16:Nat)^(15-p)<=1152921504606846976:=Nat.le_trans (Nat.pow_le_pow_right (by decide) (Nat.sub_le 15 p)) (by decide);obtain⟨K,hK⟩: ∃K,K=part / 16^(15-p)+(if hexUp lead (16*part) p then 1 else 0):=⟨_,rfl⟩;obtain⟨hKle,hmid⟩:=ziV (lead:=lead) hp A hK dot x;have I:(16:Nat)^p<=1152921504606846976:=Nat.le_trans (Nat.pow_le_pow_right (by decide) (show p<=15 by omega)) (by decide);have j6:Ev (λk=>zag.j6 k (p:Int) dot (S lead) x (K:Int)) (S (hexMid dot false lead (16*part) p x)):=by
  have hb:=zd2 16 K;refine Ev.step (λk=>by simp only[zag.j6];rfl) ?_;refine Ev.bind (zdR (b:=16) (.inr rfl) (n:=K) (by omega)) ?_;refine Ev.bind (zeM (bT 16 K) (p:Int) (by omega)) ?_;rw[hmid];have j8: ∀s:List UInt8,s.length<=100->Ev (λk=>zag.j8 k (p:Int) dot (S lead) x (S s)) (S (if p<s.length then hexEnd dot false lead (zsL p) (x+1) else hexEnd dot false lead s x)):=by
   intro s hs;refine Ev.step (λk=>by simp only[zag.j8];rfl) ?_;by_cases c:p<s.length
   ·rw[if_pos c];refine Ev.congr (λk=>if_pos (by rw[zay];omega)) ?_;have hz:=zeN (p:Int) (by omega);rw[Int.toNat_natCast] at hz;refine Ev.bind hz ?_;rw[w64 (x:=x+1) (by omega) (by omega)];exact zeQ hl (by rw[zbC];omega) (by omega) dot
   ·rw[if_neg c];refine Ev.congr (λk=>if_neg (by rw[zay];omega)) ?_;exact zeQ hl (by omega) (by omega) dot
  have B: ∀s:List UInt8,s.length<=100->Ev (λk=>zag.j7 k (p:Int) dot (S lead) x (S s) false) (S (if p<s.length then hexEnd dot false lead (zsL p) (x+1) else hexEnd dot false lead s x)):=by
   intro s hs;refine Ev.step (λk=>by simp only[zag.j7];rfl) ?_;exact Ev.congr (λk=>if_neg (by simp)) (j8 s hs)
  (have hzl:(zsL ((p:Int)-((bT 16 K).length:Int)).toNat++bT 16 K).length<=100:=by rw[List.length_append,zbC];omega);by_cases c:K=16^p
  ·have hlong:=zmr (n:=K) (p:=p) (by omega) (by omega);have h2:=B _ hzl;rw[if_pos (by rw[List.length_append,zbC];omega)] at h2;rw[if_pos c,if_pos c];have e:(if p=0 then [] else zsL p)=zsL p:=by
    by_cases d:p=0
    ·rw[if_pos d,d];rfl
    ·rw[if_neg d]
   rw[e];by_cases d:p=0
   ·refine Ev.congr (λk=>if_pos (by omega)) ?_;rw[show((K:Int)==0)=false from beq_eq_false_iff_ne.mpr (by subst d;omega)];exact h2
   ·exact Ev.congr (λk=>if_neg (by omega)) h2
  ·rw[if_neg c,if_neg c];by_cases d:p=0
   ·subst d;(have E:K=0:=by omega);refine Ev.congr (λk=>if_pos (by omega)) ?_;rw[E,if_pos rfl];refine Ev.step (λk=>by simp only[zag.j7];rfl) ?_;refine Ev.congr (λk=>if_pos (by decide)) ?_;exact j8 [] (by decide)
   ·refine Ev.congr (λk=>if_neg (by omega)) ?_;have hpd:=zfm 63 p K (by omega) (by omega) (by omega);have hbs:(bT 16 K).length<=p:=by
     have:=zeG 16 63 K (p-1) (by rw[show p-1+1=p by omega];omega);show(bF 16 63 K).length<=p;omega
    have e:zsL ((p:Int)-((bT 16 K).length:Int)).toNat++bT 16 K=padH p K:=by
     rw[<-hpd,show((p:Int)-((bT 16 K).length:Int)).toNat=p-(bT 16 K).length by omega];rfl
    have h2:=B _ hzl;rw[e,zc6,if_neg (Nat.lt_irrefl p)] at h2;rw[e,if_neg d];exact h2
 have j5: ∀u:Bool,u=decide (hexUp lead (16*part) p)->Ev (λk=>zag.j5 k (p:Int) dot (S lead) x ((part / 16^(15-p):Nat):Int) u) (S (hexMid dot false lead (16*part) p x)):=by
  intro u hu;have hd:part / 16^(15-p)<=part:=Nat.div_le_self _ _;refine Ev.step (λk=>by simp only[zag.j5];rfl) ?_;by_cases c:hexUp lead (16*part) p
  ·rw[hu,decide_eq_true c];rw[if_pos c] at hK;refine Ev.congr (λk=>if_pos rfl) ?_;rw[show((part / 16^(15-p):Nat):Int)+1=(K:Int) by omega,u64c K (by omega)];exact j6
  ·rw[hu,decide_eq_false c];rw[if_neg c,Nat.add_zero] at hK;refine Ev.congr (λk=>if_neg (by simp)) ?_;rw[<-hK];exact j6
 have j4: ∀o:Bool,o=decide (if p=0 then lead=[49] else part / 16^(15-p)%2=1)->Ev (λk=>zag.j4 k (p:Int) dot (S lead) x ((16^(15-p):Nat):Int) ((part / 16^(15-p):Nat):Int) ((part%16^(15-p):Nat):Int) o) (S (hexMid dot false lead (16*part) p x)):=by
  intro o ho;have hup:=zms (lead:=lead) hp A;have hm:=Nat.mod_lt part D;have hw:IntKind.u64.wrap (2*((part%16^(15-p):Nat):Int))=((2*(part%16^(15-p)):Nat):Int):=by
   rw[show 2*((part%16^(15-p):Nat):Int)=((2*(part%16^(15-p)):Nat):Int) by omega];exact u64c _ (by omega)
  refine Ev.step (λk=>by simp only[zag.j4];rfl) ?_;rw[hw];unfold refUp at hup;by_cases c1:16^(15-p)<2*(part%16^(15-p))
  ·refine Ev.congr (λk=>if_pos (by omega)) ?_;exact j5 true (by rw[eq_comm];exact decide_eq_true (hup.1 (.inl c1)))
  ·refine Ev.congr (λk=>if_neg (by omega)) ?_;by_cases c2:2*(part%16^(15-p))=16^(15-p)
   ·refine Ev.congr (λk=>if_pos (by omega)) ?_;refine j5 o ?_;rw[ho];exact decide_eq_decide.2 ⟨λh=>hup.1 (.inr ⟨c2,h⟩),λh=>(hup.2 h).elim (λh=>absurd h c1) (λh=>h.2)⟩
   ·refine Ev.congr (λk=>if_neg (by omega)) ?_;exact j5 false (by rw[eq_comm];exact decide_eq_false (λh=>(hup.2 h).elim c1 (λh=>c2 h.1)))
 have loop: ∀(j i:Nat),p+i+j=15->Ev (λk=>zag.l2 k (p:Int) dot (S lead) x (part:Int) ((16^i:Nat):Int) ((p+i:Nat):Int)) (S (hexMid dot false lead (16*part) p x)):=by
  intro j;induction j with
  |zero=>
   intro i hi;(have hip:i=15-p:=by omega);subst hip;have hd:part / 16^(15-p)<=part:=Nat.div_le_self _ _;refine Ev.step (λk=>by simp only[zag.l2];rfl) ?_;refine Ev.congr (λk=>if_neg (by omega)) ?_;refine Ev.congr (λk=>if_neg (by omega)) ?_;have ht:Int.tdiv (part:Int) ((16^(15-p):Nat):Int)=((part / 16^(15-p):Nat):Int):=rfl;rw[tmodN,ht,u64c _ (by omega)];by_cases c:p=0
   ·refine Ev.congr (λk=>if_pos (by omega)) ?_;refine j4 _ ?_;rw[zbo,L_S,Bool.eq_iff_iff,beq_iff_eq,decide_eq_true_iff,if_pos c]
   ·refine Ev.congr (λk=>if_neg (by omega)) ?_;refine j4 _ ?_;rw[show Int.tmod ((part / 16^(15-p):Nat):Int) 2=((part / 16^(15-p)%2:Nat):Int) from tmodN _ 2,Bool.eq_iff_iff,beq_iff_eq,decide_eq_true_iff,if_neg c];omega
  |succ j ih=>
   intro i hi;have M:(16:Nat)^(i+1)<=1152921504606846976:=Nat.le_trans (Nat.pow_le_pow_right (by decide) (show i+1<=15 by omega)) (by decide);refine Ev.step (λk=>by simp only[zag.l2];rfl) ?_;refine Ev.congr (λk=>if_pos (by omega)) ?_;have e1:IntKind.u64.wrap (16*((16^i:Nat):Int))=((16^(i+1):Nat):Int):=by
    rw[show 16*((16^i:Nat):Int)=((16^(i+1):Nat):Int) by rw[Nat.pow_succ];omega];exact u64c _ (by omega)
   rw[e1,w64 (x:=((p+i:Nat):Int)+1) (by omega) (by omega),show((p+i:Nat):Int)+1=((p+(i+1):Nat):Int) by omega];exact ih (i+1) (by omega)
 exact loop (15-p) 0 (by omega)
theorem zgk{part:Nat}(hpart:part<1152921504606846976):sixL (16*part)=padH 15 part++[48]:=by
 have h:=zfN 15 part 1;rw[Nat.pow_one,Nat.mul_comm] at h;rw[zfO (by omega)];exact h
theorem znv(lead:List UInt8){part:Nat}(hpart:part<1152921504606846976)(x:Int)(dot:Bool):hexMid dot false lead (16*part) 15 x=hexEnd dot false lead (padH 15 part) x:=by
 (have A:(2:Nat)^(4*15)=1152921504606846976:=by decide);(have e4:(2:Nat)^(64-4*15)=16:=by decide);have hu: ¬hexUp lead (16*part) 15:=by
  unfold hexUp;rw[A];(have:16*part*1152921504606846976%18446744073709551616=0:=by omega);rw[this];rintro(h|h)
  ·exact absurd h (by decide)
  ·exact absurd h.1 (by decide)
 have hk:hexKept lead (16*part) 15=part:=by
  unfold hexKept;rw[if_neg hu,e4];omega
 (have hz:part / 1152921504606846976=0:=by omega);(have hm:part*16%18446744073709551616=16*part:=by omega);unfold hexMid;dsimp only;rw[hk,A,e4,hz,hm,if_neg (Nat.lt_irrefl 0),if_neg (Nat.lt_irrefl 0),if_neg (show¬(15:Nat)=0 by decide),zgk hpart,List.take_left' (zc6 15 part)]
theorem zle{part:Nat}(hpart:part<1152921504606846976):(zsL ((15:Int)-((bT 16 part).length:Int)).toNat++bT 16 part)=padH 15 part/\(bT 16 part).length<=15:=by
 have A:part<16^15:=Nat.lt_of_lt_of_le hpart (by decide);have hbs:(bT 16 part).length<=15:=zeG 16 63 part 14 A;refine⟨?_,hbs⟩;have h:=zfm 63 15 part (by decide) (by decide) A;rw[show((15:Int)-((bT 16 part).length:Int)).toNat=15-(bT 16 part).length by omega];exact h
theorem zlf{part:Nat}(hpart:part<1152921504606846976){prec:Int}(h:prec>=16):fillL (sixL (16*part)) prec=padH 15 part++zsL (prec-15).toNat:=by
 obtain⟨j,hj⟩: ∃j:Nat,prec=j+16:=⟨(prec-16).toNat,by omega⟩;rw[zgk hpart];unfold fillL;rw[List.length_append,zc6,List.length_singleton,List.append_assoc,show(prec-((15+1:Nat):Int)).toNat=j by omega,show(prec-15).toNat=j+1 by omega,show [48]++zsL j=zsL (j+1) from rfl]
theorem ziW{lead:List UInt8}{part:Nat}(hpart:part<1152921504606846976){x prec:Int}(hq:15<=prec)(dot:Bool):
 (if prec>=16 then hexEnd dot false lead (fillL (sixL (16*part)) prec) x else hexMid dot false lead (16*part) prec.toNat x)=hexEnd dot false lead (padH 15 part++zsL (prec-15).toNat) x:=by
 by_cases c3:prec>=16
 ·rw[if_pos c3,zlf hpart c3]
 ·rw[if_neg c3,show prec.toNat=15 by omega,show(prec-15).toNat=0 by omega,znv lead hpart,show zsL 0=[] from rfl,List.append_nil]
theorem zgP{lead:List UInt8}(hlead:lead=[48]\/lead=[49]){part:Nat}(hpart:part<1152921504606846976){x:Int}(hx: -80000<=x/\x<=80000){prec:Int}(hq: -1<=prec/\prec<=1000)(dot:Bool):
 Ev (λk=>zag.j1 k prec dot (S lead) x (part:Int)) (S (hexTail dot false lead (16*part) x prec)):=by
 (have hl:lead.length<=10:=by rcases hlead with rfl|rfl<;>decide);obtain⟨hpd,hbs⟩:=zle hpart;have h1:=zdR (b:=16) (.inr rfl) (n:=part) (by omega);have h2:=zeM (bT 16 part) 15 (by omega);rw[hpd] at h2;clear hpd;refine Ev.step (λk=>by simp only[zag.j1];rfl) ?_;refine Ev.bind h1 ?_;refine Ev.bind h2 ?_;clear h1 h2;unfold hexTail;by_cases c1:prec<0
 ·rw[if_pos c1];refine Ev.congr (λk=>if_pos c1) ?_;have hr:rz (sixL (16*part))=rz (padH 15 part):=by
   rw[zgk hpart];exact zcI (c:=48) (by decide)
  rw[hr];exact zgO hl (by omega) dot 15 (padH 15 part) (zc6 15 part) (by decide)
 ·rw[if_neg c1];refine Ev.congr (λk=>if_neg c1) ?_;by_cases c2:prec>=15
  ·rw[ziW hpart c2 dot];refine Ev.congr (λk=>if_pos c2) ?_;refine Ev.congr (λk=>if_pos (by rw[zay];omega)) ?_;rw[w64 (x:=prec-15) (by omega) (by omega)];refine Ev.bind (zeN (prec-15) (by omega)) ?_;refine Ev.congr (λk=>if_pos (by rw[zay,zay,zc6,zbC];omega)) ?_;rw[zby];exact ziy hl (by rw[List.length_append,zc6,zbC];omega) (by omega) dot
  ·refine Ev.congr (λk=>if_neg c2) ?_;rw[if_neg (by omega)];obtain⟨p,rfl⟩: ∃p:Nat,prec=p:=⟨prec.toNat,by omega⟩;rw[Int.toNat_natCast];exact zkc hlead (by omega) hpart (by omega) dot
theorem zgQ{r:ByteArray}(prec:Int)(dot:Bool): ∀(j m:Nat) (e:Int),1152921504606846976<=m*2^j->m*2^j<2305843009213693952-> -5000+(j:Int)<=e->e<=5000->
 Ev (λk=>zag.j1 k prec dot (S [49]) (e-j+60) ((m*2^j-1152921504606846976:Nat):Int)) r->Ev (λk=>zag.l0 k (m:Int) e prec dot) r
 |0,m,e,h1,h2,h3,h4,h=>by
  rw[Nat.pow_zero,Nat.mul_one] at h1 h2 h
  refine Ev.step (λk=>by simp only[zag.l0];rfl) ?_
  refine Ev.congr (λk=>if_neg (by omega)) ?_
  rw[w64 (x:=e+60) (by omega) (by omega),show(m:Int)-1152921504606846976=((m-1152921504606846976:Nat):Int) by omega,u64c _ (by omega)]
  rw[show e-((0:Nat):Int)+60=e+60 by omega] at h
  exact h
 |j+1,m,e,h1,h2,h3,h4,h=>by
  have e1:m*2^(j+1)=2*m*2^j:=by rw[Nat.pow_succ,Nat.mul_comm (2^j) 2,<-Nat.mul_assoc,Nat.mul_comm m 2]
  rw[e1] at h1 h2 h
  have hj:1<=2^j:=Nat.pow_pos (by decide)
  have hm:2*m*1<=2*m*2^j:=Nat.mul_le_mul_left _ hj
  refine Ev.step (λk=>by simp only[zag.l0];rfl) ?_
  refine Ev.congr (λk=>if_pos (by omega)) ?_
  rw[w64 (x:=e-1) (by omega) (by omega),show 2*(m:Int)=((2*m:Nat):Int) by omega,u64c _ (by omega)]
  refine zgQ prec dot j (2*m) (e-1) h1 h2 (by omega) (by omega) ?_
  rw[show e-1-(j:Int)+60=e-((j+1:Nat):Int)+60 by omega]
  exact h
theorem zmt{m:Nat}(hm:m<9007199254740992){e:Int}(he: -1200<=e/\e<=1200){prec:Int}(hq: -1<=prec/\prec<=1000)(dot:Bool):
 Ev (λk=>zag.f k (m:Int) e prec dot) (S (hexL m e prec dot false)):=by
 unfold zag.f hexL;by_cases c:m=0
 ·rw[if_pos c];refine Ev.congr (λk=>if_neg (by omega)) ?_;exact zgP (lead:=[48]) (.inl rfl) (part:=0) (by decide) (by decide) hq dot
 ·rw[if_neg c];refine Ev.congr (λk=>if_pos (by omega)) ?_;obtain⟨D,A,B⟩:=zf3 64 m c (Nat.lt_of_lt_of_le hm (by decide));have K:Lib.bitLen m<=53:=by
   refine Classical.byContradiction λc=>?_;have:2^53<=2^(Lib.bitLen m-1):=Nat.pow_le_pow_right (by decide) (by omega);(have M:(2:Nat)^53=9007199254740992:=by decide);change 2^(Lib.bitLen m-1)<=m at A;omega
  change 1<=Lib.bitLen m at D;change 2^(Lib.bitLen m-1)<=m at A;change m<2^Lib.bitLen m at B;generalize Lib.bitLen m=n at*
  have E:m*2^(61-n)<2305843009213693952:=by
   have h1:m*2^(61-n)<2^n*2^(61-n):=Nat.mul_lt_mul_of_pos_right B (Nat.pow_pos (by decide));rw[<-Nat.pow_add,show n+(61-n)=61 by omega] at h1;exact h1
  have I:1152921504606846976<=m*2^(61-n):=by
   have h1:2^(n-1)*2^(61-n)<=m*2^(61-n):=Nat.mul_le_mul_right _ A;rw[<-Nat.pow_add,show n-1+(61-n)=60 by omega] at h1;exact h1
  have J:m*2^(64-n)=m*2^(61-n)*8:=by
   rw[show 64-n=61-n+3 by omega,Nat.pow_add,Nat.mul_assoc]
  refine zgQ prec dot (61-n) m e I E (by omega) (by omega) ?_;rw[J];generalize m*2^(61-n)=X at*
  (have hpt:X*8%18446744073709551616*2%18446744073709551616=16*(X-1152921504606846976):=by omega);rw[hpt,show e-((61-n:Nat):Int)+60=e+(n:Int)-1 by omega];exact zgP (lead:=[49]) (.inr rfl) (by omega) (by omega) hq dot
end Go.Proofs.YtilidabdbhaljaaGreatDoor.Pure
end
section
namespace Go.Proofs.YtilidabdbhaljaaGreatDoor.Fn
open Go.RowKit Go.Proofs.YtilidabdbhaljaaGreatDoorW.PrintWords Go.Proofs.YtilidabdbhaljaaGreatDoorW.PrintLast Go.Proofs.YtilidabdbhaljaaGreatDoorW.PrintMore
set_option maxHeartbeats 8000000
set_option maxRecDepth 100000
section
attribute [local go_sem] fnW_0 fnW_1 fnW_2 fnW_3 fnW_4 fnW_5 fnW_guard fnW_eql zaC zaD zaI zaJ
def zbR.f(k:Nat):Option (Bool):=(za8.f 101).bind λA=>((zaj.f k 4609434218613702656 64 A.1 A.2.1 A.2.2.1 A.2.2.2.1 A.2.2.2.2.1 A.2.2.2.2.2.1 A.2.2.2.2.2.2.1 A.2.2.2.2.2.2.2).bind λE=>((za8.f 118).bind λB=>((zaj.f k 4591870180066957722 64 B.1 B.2.1 B.2.2.1 B.2.2.2.1 B.2.2.2.2.1 B.2.2.2.2.2.1 B.2.2.2.2.2.2.1 B.2.2.2.2.2.2.2).bind λI=>((za8.f 100).bind λD=>((zaj.f k 0 64 D.1 D.2.1 D.2.2.1 D.2.2.2.1 D.2.2.2.2.1 D.2.2.2.2.2.1 D.2.2.2.2.2.2.1 D.2.2.2.2.2.2.2).bind λJ=>(if E.2=true then(if I.2=true then(if J.2=true then(some false) else(if E.1.toList=([49,46,53,48,48,48,48,48,101,43,48,48]:List UInt8) then(some (I.1.toList==([48,46,49]:List UInt8))) else(some false))) else(some false)) else(some false)))))))
theorem zbR.calls(k:Nat)(r:Bool)(w:World)(h:zbR.f k=some r):
 Calls Tryz.prog 12 #[] w λe w'=>e= .returned (.bool r)/\Below w.heap.size w w':=by
 have HB:=zaa.mk (Below.refl w.heap.size w);have H:((za8.f 101).bind λA=>((zaj.f k 4609434218613702656 64 A.1 A.2.1 A.2.2.1 A.2.2.2.1 A.2.2.2.2.1 A.2.2.2.2.2.1 A.2.2.2.2.2.2.1 A.2.2.2.2.2.2.2).bind λav=>((za8.f 118).bind λB=>((zaj.f k 4591870180066957722 64 B.1 B.2.1 B.2.2.1 B.2.2.2.1 B.2.2.2.2.1 B.2.2.2.2.2.1 B.2.2.2.2.2.2.1 B.2.2.2.2.2.2.2).bind λaw=>((za8.f 100).bind λD=>((zaj.f k 0 64 D.1 D.2.1 D.2.2.1 D.2.2.2.1 D.2.2.2.2.1 D.2.2.2.2.2.1 D.2.2.2.2.2.2.1 D.2.2.2.2.2.2.2).bind λaz=>(if av.2=true then(if aw.2=true then(if az.2=true then(some false) else(if av.1.toList=([49,46,53,48,48,48,48,48,101,43,48,48]:List UInt8) then(some (aw.1.toList==([48,46,49]:List UInt8))) else(some false))) else(some false)) else(some false))))))))=some r:=h;clear h;replace H:=bs H;obtain⟨⟨E,I,J,K,M,O,U,X⟩,A1,H⟩:=H;dsimp only at H;replace H:=bs H;obtain⟨⟨Y,aC⟩,A2,H⟩:=H;dsimp only at H;replace H:=bs H;obtain⟨⟨Z,aa,ab,ac,ad,ae,af,ag⟩,A3,H⟩:=H;dsimp only at H;replace H:=bs H;obtain⟨⟨ap,ay⟩,A4,H⟩:=H;dsimp only at H;replace H:=bs H;obtain⟨⟨ah,ai,aj,ak,al,am,an,ao⟩,A5,H⟩:=H;dsimp only at H;replace H:=bs H;obtain⟨⟨ar,ax⟩,A6,H⟩:=H;dsimp only at H;by_cases c7:aC=true;case neg=>
  replace c7:=Bool.eq_false_iff.mpr c7;subst c7;replace H:=hF H;obtain rfl:=Option.some.inj H;go_enter Tryz.func12,Tryz.ntmps12;go_wp2_with (first|((with_reducible refine zac (f:=20) rfl ?_);refine gB Tryz.func20 (za8.calls 101 E I J K M O U X _ A1.out) ?_;intro a2 hb;replace HB:=bN bz hb;clear hb)|((with_reducible refine zac (f:=18) rfl ?_);refine gB Tryz.func18 (zaj.calls k 4609434218613702656 64 E I J K M O U X Y false _ A2.out) ?_;intro a3 hb;replace HB:=bN bz hb;clear hb)|((with_reducible refine zac (f:=20) rfl ?_);refine gB Tryz.func20 (za8.calls 118 Z aa ab ac ad ae af ag _ A3.out) ?_;intro a4 hb;replace HB:=bN bz hb;clear hb)|((with_reducible refine zac (f:=18) rfl ?_);refine gB Tryz.func18 (zaj.calls k 4591870180066957722 64 Z aa ab ac ad ae af ag ap ay _ A4.out) ?_;intro a5 hb;replace HB:=bN bz hb;clear hb)|((with_reducible refine zac (f:=20) rfl ?_);refine gB Tryz.func20 (za8.calls 100 ah ai aj ak al am an ao _ A5.out) ?_;intro a6 hb;replace HB:=bN bz hb;clear hb)|((with_reducible refine zac (f:=18) rfl ?_);refine gB Tryz.func18 (zaj.calls k 0 64 ah ai aj ak al am an ao ar ax _ A6.out) ?_;intro a7 hb;replace HB:=bN bz hb;clear hb));go_ret;exact⟨ez,bz⟩
 subst c7;replace H:=hT H;by_cases c8:ay=true;case neg=>
  replace c8:=Bool.eq_false_iff.mpr c8;subst c8;replace H:=hF H;obtain rfl:=Option.some.inj H;go_enter Tryz.func12,Tryz.ntmps12;go_wp2_with (first|((with_reducible refine zac (f:=20) rfl ?_);refine gB Tryz.func20 (za8.calls 101 E I J K M O U X _ A1.out) ?_;intro aV hb;replace HB:=bN bz hb;clear hb)|((with_reducible refine zac (f:=18) rfl ?_);refine gB Tryz.func18 (zaj.calls k 4609434218613702656 64 E I J K M O U X Y true _ A2.out) ?_;intro aW hb;replace HB:=bN bz hb;clear hb)|((with_reducible refine zac (f:=20) rfl ?_);refine gB Tryz.func20 (za8.calls 118 Z aa ab ac ad ae af ag _ A3.out) ?_;intro aX hb;replace HB:=bN bz hb;clear hb)|((with_reducible refine zac (f:=18) rfl ?_);refine gB Tryz.func18 (zaj.calls k 4591870180066957722 64 Z aa ab ac ad ae af ag ap false _ A4.out) ?_;intro aY hb;replace HB:=bN bz hb;clear hb)|((with_reducible refine zac (f:=20) rfl ?_);refine gB Tryz.func20 (za8.calls 100 ah ai aj ak al am an ao _ A5.out) ?_;intro aZ hb;replace HB:=bN bz hb;clear hb)|((with_reducible refine zac (f:=18) rfl ?_);refine gB Tryz.func18 (zaj.calls k 0 64 ah ai aj ak al am an ao ar ax _ A6.out) ?_;intro a1 hb;replace HB:=bN bz hb;clear hb));go_ret;exact⟨ez,bz⟩
 subst c8;replace H:=hT H;by_cases c9:ax=true
 (·subst c9;replace H:=hT H;obtain rfl:=Option.some.inj H;go_enter Tryz.func12,Tryz.ntmps12;go_wp2_with (first|((with_reducible refine zac (f:=20) rfl ?_);refine gB Tryz.func20 (za8.calls 101 E I J K M O U X _ A1.out) ?_;intro aD hb;replace HB:=bN bz hb;clear hb)|((with_reducible refine zac (f:=18) rfl ?_);refine gB Tryz.func18 (zaj.calls k 4609434218613702656 64 E I J K M O U X Y true _ A2.out) ?_;intro aE hb;replace HB:=bN bz hb;clear hb)|((with_reducible refine zac (f:=20) rfl ?_);refine gB Tryz.func20 (za8.calls 118 Z aa ab ac ad ae af ag _ A3.out) ?_;intro aF hb;replace HB:=bN bz hb;clear hb)|((with_reducible refine zac (f:=18) rfl ?_);refine gB Tryz.func18 (zaj.calls k 4591870180066957722 64 Z aa ab ac ad ae af ag ap true _ A4.out) ?_;intro aG hb;replace HB:=bN bz hb;clear hb)|((with_reducible refine zac (f:=20) rfl ?_);refine gB Tryz.func20 (za8.calls 100 ah ai aj ak al am an ao _ A5.out) ?_;intro aH hb;replace HB:=bN bz hb;clear hb)|((with_reducible refine zac (f:=18) rfl ?_);refine gB Tryz.func18 (zaj.calls k 0 64 ah ai aj ak al am an ao ar true _ A6.out) ?_;intro aI hb;replace HB:=bN bz hb;clear hb));go_ret;exact⟨ez,bz⟩);replace c9:=Bool.eq_false_iff.mpr c9;subst c9;replace H:=hF H;by_cases au:Y.toList=([49,46,53,48,48,48,48,48,101,43,48,48]:List UInt8)
 (·replace H:=hE H au;have aA:(Y.toList==([49,46,53,48,48,48,48,48,101,43,48,48]:List UInt8))=true:=beq_iff_eq.mpr au;have aB:(Y.toList !=([49,46,53,48,48,48,48,48,101,43,48,48]:List UInt8))=false:=bne_eq_false_iff_eq.mpr au;clear au;obtain rfl:=Option.some.inj H;go_enter Tryz.func12,Tryz.ntmps12;go_wp2_with (first|((with_reducible refine zac (f:=20) rfl ?_);refine gB Tryz.func20 (za8.calls 101 E I J K M O U X _ A1.out) ?_;intro aJ hb;replace HB:=bN bz hb;clear hb)|((with_reducible refine zac (f:=18) rfl ?_);refine gB Tryz.func18 (zaj.calls k 4609434218613702656 64 E I J K M O U X Y true _ A2.out) ?_;intro aK hb;replace HB:=bN bz hb;clear hb)|((with_reducible refine zac (f:=20) rfl ?_);refine gB Tryz.func20 (za8.calls 118 Z aa ab ac ad ae af ag _ A3.out) ?_;intro aL hb;replace HB:=bN bz hb;clear hb)|((with_reducible refine zac (f:=18) rfl ?_);refine gB Tryz.func18 (zaj.calls k 4591870180066957722 64 Z aa ab ac ad ae af ag ap true _ A4.out) ?_;intro aM hb;replace HB:=bN bz hb;clear hb)|((with_reducible refine zac (f:=20) rfl ?_);refine gB Tryz.func20 (za8.calls 100 ah ai aj ak al am an ao _ A5.out) ?_;intro aN hb;replace HB:=bN bz hb;clear hb)|((with_reducible refine zac (f:=18) rfl ?_);refine gB Tryz.func18 (zaj.calls k 0 64 ah ai aj ak al am an ao ar false _ A6.out) ?_;intro aO hb;replace HB:=bN bz hb;clear hb));go_ret;exact⟨ez,bz⟩);replace H:=hN H au;have aA:(Y.toList==([49,46,53,48,48,48,48,48,101,43,48,48]:List UInt8))=false:=beq_eq_false_iff_ne.mpr au;have aB:(Y.toList !=([49,46,53,48,48,48,48,48,101,43,48,48]:List UInt8))=true:=bne_iff_ne.mpr au;obtain rfl:=Option.some.inj H;go_enter Tryz.func12,Tryz.ntmps12;go_wp2_with (first|((with_reducible refine zac (f:=20) rfl ?_);refine gB Tryz.func20 (za8.calls 101 E I J K M O U X _ A1.out) ?_;intro aP hb;replace HB:=bN bz hb;clear hb)|((with_reducible refine zac (f:=18) rfl ?_);refine gB Tryz.func18 (zaj.calls k 4609434218613702656 64 E I J K M O U X Y true _ A2.out) ?_;intro aQ hb;replace HB:=bN bz hb;clear hb)|((with_reducible refine zac (f:=20) rfl ?_);refine gB Tryz.func20 (za8.calls 118 Z aa ab ac ad ae af ag _ A3.out) ?_;intro aR hb;replace HB:=bN bz hb;clear hb)|((with_reducible refine zac (f:=18) rfl ?_);refine gB Tryz.func18 (zaj.calls k 4591870180066957722 64 Z aa ab ac ad ae af ag ap true _ A4.out) ?_;intro aS hb;replace HB:=bN bz hb;clear hb)|((with_reducible refine zac (f:=20) rfl ?_);refine gB Tryz.func20 (za8.calls 100 ah ai aj ak al am an ao _ A5.out) ?_;intro aT hb;replace HB:=bN bz hb;clear hb)|((with_reducible refine zac (f:=18) rfl ?_);refine gB Tryz.func18 (zaj.calls k 0 64 ah ai aj ak al am an ao ar false _ A6.out) ?_;intro aU hb;replace HB:=bN bz hb;clear hb));go_ret;exact⟨ez,bz⟩
end
end Go.Proofs.YtilidabdbhaljaaGreatDoor.Fn
end
section
namespace Go.Proofs.YtilidabdbhaljaaGreatDoor.Pure
open Go.RowKit Go.Proofs.YtilidabdbhaljaaGreatDoorW.PrintWords Go.Proofs.YtilidabdbhaljaaGreatDoorW.PrintLast Go.Proofs.YtilidabdbhaljaaGreatDoorW.PrintMore Go.Proofs.YtilidabdbhaljaaGreatDoor.Fn
theorem ex_e:floatS true 4609434218613702656 false false false false false (-1) (-1) 101=(S [49,46,53,48,48,48,48,48,101,43,48,48],true):=by decide+kernel
theorem ex_v:floatS true 4591870180066957722 false false false false false (-1) (-1) 118=(S [48,46,49],true):=by
 (have h0:codeV 118=3:=by decide);(have h1:bareN true 4591870180066957722=4591870180066957722:=by decide);(have h2:(4591870180066957722:Nat)<ii true:=by decide);unfold floatS;rw[h1,if_neg (by rw[h0];decide),if_pos h2];have hr: ∀m e,restL true 4591870180066957722 m e (clamp (-1)) 118 false=[48,46,49]:=by
  intro m e;unfold restL genOf shortL;rw[h0,if_neg (by decide),if_neg (by decide),if_pos rfl,if_pos (by decide),if_neg (by decide),zhZ];decide
 rw[hr];decide
theorem znc:Ev (λk=>zbR.f k) true:=by
 have h1:=zd7 true (a:=4609434218613702656) (by decide) false false false false false (-1) (-1) 101;rw[ex_e] at h1;have h2:=zd7 true (a:=4591870180066957722) (by decide) false false false false false (-1) (-1) 118;rw[ex_v] at h2;have h3:=zd7 true (a:=0) (by decide) false false false false false (-1) (-1) 100;rw[show floatS true 0 false false false false false (-1) (-1) 100=(⟨#[]⟩,false) from rfl] at h3;unfold zbR.f za8.f;simp only[Option.bind_some];refine Ev.bind (g:=λk=>zaj.f k 4609434218613702656 64 false false false false false (-1) (-1) 101) h1 ?_;refine Ev.bind (g:=λk=>zaj.f k 4591870180066957722 64 false false false false false (-1) (-1) 118) h2 ?_;refine Ev.bind (g:=λk=>zaj.f k 0 64 false false false false false (-1) (-1) 100) h3 ?_;refine Ev.congr (λk=>?_) (Ev.now _);rw[if_pos rfl,if_pos rfl,if_neg (by simp),if_pos (by rw[zbo,L_S]),zbo,L_S];rfl
theorem zkd:Ev (λk=>(zbR.f k).bind λt=>some t) true:=Ev.bind znc (Ev.now _)
theorem znd(wide:Bool):zb9.f wide=some (szB wide):=by cases wide<;>rfl
def HeadD(l:List UInt8):Prop:= ∃c t,l=c::t/\48<=c.toNat/\c.toNat<=57
theorem HeadD.app{a:List UInt8}(h:HeadD a)(b:List UInt8):HeadD (a++b):=by
 obtain⟨c,t,rfl,h1⟩:=h;exact⟨c,t++b,rfl,h1⟩
theorem zke{v:List UInt8×Int}{n:Int}(hne:(roundN v.1 v.2 (v.2+n)).1≠[]):((roundN v.1 v.2 (v.2+n)).1.length:Int)<=(roundN v.1 v.2 (v.2+n)).2+n:=by
 have low: ∀u:Nat,(decOf u (v.2-(v.2+n))).1≠[]->((decOf u (v.2-(v.2+n))).1.length:Int)<=(decOf u (v.2-(v.2+n))).2+n:=by
  intro u hu;have hz:u≠0:=λe=>hu (by rw[e,zc9]);have:=zc4 hz (v.2-(v.2+n));omega
 unfold roundN at hne ⊢;by_cases c1:v.2+n<0
 ·rw[if_pos c1] at hne;exact absurd rfl hne
 ·rw[if_neg c1] at hne ⊢;by_cases c2:(v.1.length:Int)<=v.2+n
  ·rw[if_pos c2];exact c2
  ·rw[if_neg c2] at hne ⊢;by_cases c3:downP v.1 (v.2+n).toNat
   ·rw[if_pos c3] at hne ⊢;exact low _ hne
   ·rw[if_neg c3] at hne ⊢;exact low _ hne
end Go.Proofs.YtilidabdbhaljaaGreatDoor.Pure
end
section
namespace Go.Proofs.YtilidabdbhaljaaGreatDoor.Pure
open Go.RowKit Go.Proofs.YtilidabdbhaljaaGreatDoorW.PrintWords Go.Proofs.YtilidabdbhaljaaGreatDoorW.PrintLast Go.Proofs.YtilidabdbhaljaaGreatDoorW.PrintMore Go.Proofs.YtilidabdbhaljaaGreatDoor.Fn
theorem zkf(v:Int):isVerb v=(codeV v !=0):=by
 unfold isVerb codeV;by_cases c1:v=101\/v=69
 (·rw[if_pos c1,decide_eq_true (by omega)];rfl);rw[if_neg c1];by_cases c2:v=102\/v=70
 (·rw[if_pos c2,decide_eq_true (by omega)];rfl);rw[if_neg c2];by_cases c3:v=103\/v=71\/v=118
 (·rw[if_pos c3,decide_eq_true (by omega)];rfl);rw[if_neg c3];by_cases c4:v=98
 (·rw[if_pos c4,decide_eq_true (by omega)];rfl);rw[if_neg c4];by_cases c5:v=120\/v=88
 (·rw[if_pos c5,decide_eq_true (by omega)];rfl);rw[if_neg c5,decide_eq_false (by omega)];rfl
end Go.Proofs.YtilidabdbhaljaaGreatDoor.Pure
end
section
namespace Go.Proofs.YtilidabdbhaljaaGreatDoor.Fn
open Go.RowKit Go.Proofs.YtilidabdbhaljaaGreatDoorW.PrintWords Go.Proofs.YtilidabdbhaljaaGreatDoorW.PrintLast Go.Proofs.YtilidabdbhaljaaGreatDoorW.PrintMore
set_option maxHeartbeats 8000000
set_option maxRecDepth 100000
section
attribute [local go_sem] fnW_0 fnW_1 fnW_2 fnW_3 fnW_4 fnW_5 fnW_guard fnW_eql zaC zaD zaI zaJ
def zbY.f(k:Nat)(a0:Int)(a1:Int)(D:Bool)(E:Bool)(I:Bool)(J:Bool)(K:Bool)(M:Int)(O:Int)(U:Int):Option (Bool):=(zaj.f k a0 a1 D E I J K M O U).bind λA=>((zam.f k a0 a1 D E I J K M O U).bind λB=>(if A.1.toList=B.1.toList then(some (A.2==B.2)) else(some false)))
theorem zbY.calls(k:Nat)(a0:Int)(a1:Int)(B:Bool)(D:Bool)(E:Bool)(I:Bool)(J:Bool)(K:Int)(M:Int)(O:Int)(r:Bool)(w:World)(h:zbY.f k a0 a1 B D E I J K M O=some r):
 Calls Tryz.prog 9 #[.int .u64 a0,.int .i64 a1,.agg #[.bool B,.bool D,.bool E,.bool I,.bool J,.int .i64 K,.int .i64 M,.int .i32 O]] w λe w'=>e= .returned (.bool r)/\Below w.heap.size w w':=by
 have bq:=Tryz.underlying26;have HB:=zaa.mk (Below.refl w.heap.size w);have H:((zaj.f k a0 a1 B D E I J K M O).bind λZ=>((zam.f k a0 a1 B D E I J K M O).bind λaa=>(if Z.1.toList=aa.1.toList then(some (Z.2==aa.2)) else(some false))))=some r:=h;clear h;replace H:=bs H;obtain⟨⟨U,ab⟩,A4,H⟩:=H;dsimp only at H;replace H:=bs H;obtain⟨⟨X,ac⟩,A5,H⟩:=H;dsimp only at H;by_cases c6:U.toList=X.toList
 (·replace H:=hE H c6;have af:(U.toList==X.toList)=true:=beq_iff_eq.mpr c6;have ag:(U.toList !=X.toList)=false:=bne_eq_false_iff_eq.mpr c6;clear c6;obtain rfl:=Option.some.inj H;go_enter Tryz.func9,Tryz.ntmps9;go_wp2_with (first|((with_reducible refine zae (N:=5) rfl ?_);refine zaf rfl (N:=5) rfl (cs:=#[.bool B,.bool D,.bool E,.bool I,.bool J,.int .i64 K,.int .i64 M,.int .i32 O]) (t:=26) gz ?_;intro Y hg w7 hbox hb;have ad:=gN bz hg;have ae:=gN bz hg;have A:=zaa.mk hbox;replace HB:=bN bz hb;clear hb hbox hg;obtain⟨a8,a9,ba,bb,bd,be,bf,bg,bh,bi,bj,bl,bm,bn,bo,bp⟩:=cz8 A)|((with_reducible refine zac (f:=18) rfl ?_);refine gB Tryz.func18 (zaj.calls k a0 a1 B D E I J K M O U ab _ A4.out) ?_;intro w9 hb;replace A:=kN (g:=Y) hb bk;replace HB:=bN bz hb;clear hb;obtain⟨ah,ai,aj,ak,al,am,an,ao,ap,ar,au,av,aw,ax,ay,az⟩:=cz8 A)|((with_reducible refine zac (f:=19) rfl ?_);refine gB Tryz.func19 (zam.calls k a0 a1 B D E I J K M O X ac _ A5.out) ?_;intro br hb;replace A:=kN (g:=Y) hb bk;replace HB:=bN bz hb;clear hb));go_ret;exact⟨ez,bz⟩);replace H:=hN H c6;have af:(U.toList==X.toList)=false:=beq_eq_false_iff_ne.mpr c6;have ag:(U.toList !=X.toList)=true:=bne_iff_ne.mpr c6;obtain rfl:=Option.some.inj H;go_enter Tryz.func9,Tryz.ntmps9;go_wp2_with (first|((with_reducible refine zae (N:=5) rfl ?_);refine zaf rfl (N:=5) rfl (cs:=#[.bool B,.bool D,.bool E,.bool I,.bool J,.int .i64 K,.int .i64 M,.int .i32 O]) (t:=26) gz ?_;intro Y hg bu hbox hb;have ad:=gN bz hg;have ae:=gN bz hg;have A:=zaa.mk hbox;replace HB:=bN bz hb;clear hb hbox hg;obtain⟨aA,aB,aC,aD,aE,aF,aG,aH,aI,aJ,aK,aL,aM,aN,aO,aP⟩:=cz8 A)|((with_reducible refine zac (f:=18) rfl ?_);refine gB Tryz.func18 (zaj.calls k a0 a1 B D E I J K M O U ab _ A4.out) ?_;intro bv hb;replace A:=kN (g:=Y) hb bk;replace HB:=bN bz hb;clear hb;obtain⟨aQ,aR,aS,aT,aU,aV,aW,aX,aY,aZ,a2,a3,a4,a5,a6,a7⟩:=cz8 A)|((with_reducible refine zac (f:=19) rfl ?_);refine gB Tryz.func19 (zam.calls k a0 a1 B D E I J K M O X ac _ A5.out) ?_;intro bw hb;replace A:=kN (g:=Y) hb bk;replace HB:=bN bz hb;clear hb));go_ret;exact⟨ez,bz⟩
end
end Go.Proofs.YtilidabdbhaljaaGreatDoor.Fn
end
section
namespace Go.Proofs.YtilidabdbhaljaaGreatDoor.Pure
open Go.RowKit Go.Proofs.YtilidabdbhaljaaGreatDoorW.PrintWords Go.Proofs.YtilidabdbhaljaaGreatDoorW.PrintLast Go.Proofs.YtilidabdbhaljaaGreatDoorW.PrintMore Go.Proofs.YtilidabdbhaljaaGreatDoor.Fn
theorem zeo{v:List UInt8×Int}(h:Near v)(n:Int):Ev (λk=>zbJ.f k (S v.1) v.2 n) (S (roundN v.1 v.2 n).1,(roundN v.1 v.2 n).2,0):=by
 have hr:=ziQ (S v.1) v.2 n;have h5:=h.five;unfold roundS at hr;rw[zcN h.form h5.1 h5.2,if_pos rfl] at hr;simp only[L_S] at hr;exact hr
theorem zhO{v:List UInt8×Int}(h:Near v){n:Int}(hn: -20000<=n/\n<=20000):Ev (λk=>zbM.f k (S v.1) v.2 n) (S (roundN v.1 v.2 (v.2+n)).1,(roundN v.1 v.2 (v.2+n)).2,0):=by
 have hr:=zhY (S v.1) v.2 n;have h5:=h.five;unfold roundS at hr;rw[zcN h.form h5.1 h5.2,if_pos rfl,show max (-20000) (min n 20000)=n by omega] at hr;simp only[L_S] at hr;exact hr
def genM(dot:Bool)(l:List UInt8)(keep:Int):List UInt8:=if dot then fillL (if l=[] then [48] else l) keep else if l=[] then [48] else l
theorem zne(dot big:Bool)(d:List UInt8×Int)(keep top:Int):genL dot big d keep top=if firstL d< -4\/firstL d>=top then sciL dot big (genM dot d.1 keep) (firstL d) else aroundL dot (genM dot d.1 keep) (firstL d+1):=rfl
theorem znw(n:Nat):[48]++zsL n=zsL (n+1):=rfl
theorem zkg(dot:Bool)(l:List UInt8){keep:Int}(hk:1<=keep):
 genM dot l keep=l++zsL ((genM dot l keep).length-l.length)/\l.length<=(genM dot l keep).length/\1<=(genM dot l keep).length/\
  ((genM dot l keep).length:Int)=(if dot=true/\(if l=[] then(1:Int) else(l.length:Int))<keep then keep else if l=[] then(1:Int) else(l.length:Int)):=by
 unfold genM;by_cases c:l=[]
 ·subst c;cases dot with
  |true=>
   (have e:fillL [48] keep=zsL ((keep-1).toNat+1):=by unfold fillL;exact znw _);simp only[if_pos trivial,true_and];rw[e,zbC];refine⟨rfl,Nat.zero_le _,by omega,?_⟩;split<;>omega
  |false=>exact⟨rfl,Nat.zero_le _,Nat.le_refl 1,by simp⟩
 ·have hl:1<=l.length:=Nat.succ_le_of_lt (List.length_pos_iff.2 c);simp only[if_neg c];cases dot with
  |true=>
   have hf:=zb7 l keep;simp only[if_pos trivial,true_and];refine⟨?_,by omega,by omega,?_⟩
   ·show l++zsL (keep-l.length).toNat=l++zsL ((fillL l keep).length-l.length);rw[show(fillL l keep).length-l.length=(keep-l.length).toNat by omega]
   ·split<;>omega
  |false=>
   refine⟨?_,Nat.le_refl _,hl,by simp⟩;show l=l++zsL (l.length-l.length);rw[Nat.sub_self];exact(List.append_nil l).symm
theorem zmu{l:List UInt8}{n:Nat}(h:l.length<=n):fillL l (n:Int)=l++zsL (n-l.length):=by
 unfold fillL;rw[show((n:Int)-(l.length:Int)).toNat=n-l.length by omega]
theorem zd8(p m s sp z:Bool)(wid prc v:Int)(dot:Bool){d:List UInt8×Int}(hform:InForm d.1 d.2)(hd:d.1.length<=2000/\ -4000<=d.2/\d.2<=1500){keep top:Int}(hk:1<=keep/\keep<=1000):
 Ev (λk=>zah.j1 k dot top keep p m s sp z wid prc v (S d.1) d.2) (S (genL dot (bigV v) d keep top)):=by
 obtain⟨l,q⟩:=d;dsimp only at hd hform ⊢;have hfb:=zcR (d:=(l,q)) hd.2;obtain⟨g1,g2,g3,g4⟩:=zkg dot l hk.1;rw[zne];dsimp only;obtain⟨M,hM⟩: ∃M,genM dot l keep=M:=⟨_,rfl⟩;rw[hM] at g1 g2 g3 g4 ⊢;have hML:M.length<=2000:=by
  (have:(M.length:Int)<=2000:=by rw[g4];split<;>(try split)<;>omega);omega
 have j4:Ev (λk=>zah.j4 k dot top (M.length:Int) p m s sp z wid prc v (S l) q) (S (if firstL (l,q)< -4\/firstL (l,q)>=top then sciL dot (bigV v) M (firstL (l,q)) else aroundL dot M (firstL (l,q)+1))):=by
  refine Ev.step (λk=>by simp only[zah.j4];rfl) ?_;rw[zeO l (by omega)];simp only[Option.bind_some];have hsci:Ev (λk=>zah.j5 k dot (M.length:Int) (firstL (l,q)) true p m s sp z wid prc v (S l) q) (S (sciL dot (bigV v) M (firstL (l,q)))):=by
   refine Ev.step (λk=>by simp only[zah.j5];rfl) ?_;refine Ev.congr (λk=>if_pos (by first|rfl|trivial)) ?_;have hf:=zfs l q (M.length:Int) (by omega);rw[zmu g2,<-g1] at hf;refine Ev.bind hf ?_;exact Ev.bind (zit (λe=>by rw[e] at g3;exact absurd g3 (by decide)) (by omega) (by omega) v dot) (Ev.now _)
  have haro:Ev (λk=>zah.j5 k dot (M.length:Int) (firstL (l,q)) false p m s sp z wid prc v (S l) q) (S (aroundL dot M (firstL (l,q)+1))):=by
   have hP: ∀P:Nat,(P:Int)=max 0 ((M.length:Int)-1-firstL (l,q))->ptL dot (headL l q) (rowL l q P)=aroundL dot M (firstL (l,q)+1):=by
    intro P hP;by_cases c:l=[]
    ·subst c;have hq:q=0:=hform.2.2.2 rfl;subst hq;have hx:firstL ([],0)=0:=rfl;rw[hx] at hP ⊢;rw[ziu,g1,List.nil_append];unfold aroundL;rw[if_neg (by decide)];obtain⟨j,hj⟩: ∃j,M.length-([]:List UInt8).length=j+1:=⟨M.length-1,by simp;omega⟩;rw[hj];have e1:fillL (zsL (j+1)) (0+1)=zsL (j+1):=by
      unfold fillL;rw[zbC,show((0:Int)+1-((j+1:Nat):Int)).toNat=0 by omega];exact List.append_nil _
     rw[e1];(have e2:P=j:=by simp at hj;omega);rw[e2];rfl
    ·(have hx:firstL (l,q)=q-1:=by unfold firstL;rw[if_neg c]);rw[hx] at hP ⊢;have h:=zf2 (l:=l) (q:=q) c dot (M.length-l.length);rw[<-g1,show(((l.length+(M.length-l.length):Nat):Int)-q).toNat=P by omega] at h;rw[h,show q-1+1=q by omega]
   refine Ev.step (λk=>by simp only[zah.j5];rfl) ?_;refine Ev.congr (λk=>if_neg (by simp)) ?_;rw[w64 (x:=(M.length:Int)-1) (by omega) (by omega),w64 (x:=(M.length:Int)-1-firstL (l,q)) (by omega) (by omega)];by_cases c:(M.length:Int)-1-firstL (l,q)<0
   ·refine Ev.congr (λk=>if_pos c) ?_;have h:=zgi (l:=l) (q:=q) (by omega) (by omega) dot (P:=0) (by decide);rw[hP 0 (by omega)] at h;exact Ev.bind h (Ev.now _)
   ·refine Ev.congr (λk=>if_neg c) ?_;obtain⟨P,hPe⟩: ∃P:Nat,(M.length:Int)-1-firstL (l,q)=P:=⟨((M.length:Int)-1-firstL (l,q)).toNat,by omega⟩;have h:=zgi (l:=l) (q:=q) (by omega) (by omega) dot (P:=P) (by omega);rw[hP P (by omega)] at h;rw[hPe];exact Ev.bind h (Ev.now _)
  obtain⟨x,hx⟩: ∃x,firstL (l,q)=x:=⟨_,rfl⟩;rw[hx] at hsci haro ⊢;by_cases c1:x< -4
  ·rw[if_pos (.inl c1)];exact Ev.congr (λk=>if_pos c1) hsci
  ·refine Ev.congr (λk=>if_neg c1) ?_;by_cases c2:x>=top
   ·rw[if_pos (.inr c2),decide_eq_true c2];exact hsci
   ·rw[if_neg (by omega),decide_eq_false c2];exact haro
 have j2: ∀n1:Int,n1=(if l=[] then(1:Int) else(l.length:Int))->Ev (λk=>zah.j2 k dot top keep n1 p m s sp z wid prc v (S l) q) (S (if firstL (l,q)< -4\/firstL (l,q)>=top then sciL dot (bigV v) M (firstL (l,q)) else aroundL dot M (firstL (l,q)+1))):=by
  intro n1 A;rw[<-A] at g4;have j3: ∀u:Bool,u=decide (dot=true/\n1<keep)->Ev (λk=>zah.j3 k dot top keep n1 u p m s sp z wid prc v (S l) q) (S (if firstL (l,q)< -4\/firstL (l,q)>=top then sciL dot (bigV v) M (firstL (l,q)) else aroundL dot M (firstL (l,q)+1))):=by
   intro u hu;refine Ev.step (λk=>by simp only[zah.j3];rfl) ?_;by_cases c:dot=true/\n1<keep
   ·rw[if_pos c] at g4;refine Ev.congr (λk=>if_pos (by rw[hu];exact decide_eq_true c)) ?_;rw[<-g4];exact j4
   ·rw[if_neg c] at g4;refine Ev.congr (λk=>if_neg (by rw[hu,decide_eq_false c];simp)) ?_;rw[<-g4];exact j4
  refine Ev.step (λk=>by simp only[zah.j2];rfl) ?_;by_cases cd:dot=true
  ·refine Ev.congr (λk=>if_pos cd) ?_;exact j3 _ (by rw[Bool.eq_iff_iff,decide_eq_true_iff,decide_eq_true_iff];exact⟨λh=>⟨cd,h⟩,λh=>h.2⟩)
  ·refine Ev.congr (λk=>if_neg cd) ?_;exact j3 _ (by rw[eq_comm];exact decide_eq_false (λh=>cd h.1))
 refine Ev.step (λk=>by simp only[zah.j1];rfl) ?_;rw[zay];by_cases c:l=[]
 ·refine Ev.congr (λk=>if_pos (by rw[c];rfl)) ?_;exact j2 1 (by rw[if_pos c])
 ·have hl:1<=l.length:=Nat.succ_le_of_lt (List.length_pos_iff.2 c);refine Ev.congr (λk=>if_neg (by omega)) ?_;exact j2 _ (by rw[if_neg c])
theorem zgl(wide:Bool){a p:Nat}(hb:bareN wide a=p)(hp:p<ii wide):shortS wide a=(S (shortL wide p).1,(shortL wide p).2,0):=by
 unfold shortS shortL;rw[hb,if_neg (by omega)];split<;>rfl
theorem zh0(wide:Bool){a p0:Nat}(ha:a<18446744073709551616)(hb:bareN wide a=p0)(hp:p0<ii wide){mm:Nat}(hm:mm<18446744073709551616){e:Int}(h: -1200<=e/\e<=1200){prec:Int}(hq: -1<=prec/\prec<=1000)(p m s sp z:Bool)(wid prc v:Int):
 Ev (λk=>zah.f k (a:Int) (szB wide) (S (exD mm e).1) (exD mm e).2 prec p m s sp z wid prc v) (S (genOf wide p0 mm e prec (s&&v !=118) (bigV v))):=by
 have hn:=zdg hm h;have hs:=ze8 wide hp;have hsh:=zhF wide a ha;rw[zgl wide hb hp] at hsh;have key: ∀dot:Bool,Ev (λk=>zah.j0 k (a:Int) (szB wide) prec dot (S (exD mm e).1) (exD mm e).2 p m s sp z wid prc v) (S (genOf wide p0 mm e prec dot (bigV v))):=by
  intro dot;refine Ev.step (λk=>by simp only[zah.j0];rfl) ?_;refine Ev.bind hsh ?_;unfold genOf;by_cases c:prec<0
  ·rw[if_pos c];refine Ev.congr (λk=>if_neg (by omega)) ?_;exact zd8 p m s sp z wid prc v dot hs.1 hs.2 (by decide)
  ·rw[if_neg c];refine Ev.congr (λk=>if_pos (by omega)) ?_;by_cases c0:prec=0
   ·refine Ev.congr (λk=>if_pos c0) ?_;rw[show max prec 1=1 by omega];have hbd:=zcn hn 1;refine Ev.bind (zeo hn 1) ?_;exact zd8 p m s sp z wid prc v dot (zdr hn.form 1) (by omega) (by decide)
   ·refine Ev.congr (λk=>if_neg c0) ?_;rw[show max prec 1=prec by omega];have hbd:=zcn hn prec;refine Ev.bind (zeo hn prec) ?_;exact zd8 p m s sp z wid prc v dot (zdr hn.form prec) (by omega) (by omega)
 unfold zah.f;cases s with
 |true=>exact Ev.congr (λk=>if_pos rfl) (key (v !=118))
 |false=>exact Ev.congr (λk=>if_neg (by simp)) (key false)
theorem zkh{l:List UInt8}{q:Int}{P:Nat}(h:l≠[]->(l.length:Int)<=q+P)(dot:Bool):
 ptL dot (headL l q) (rowL l q P)=(if l=[] then ptL dot [48] (zsL P) else if q<=0 then ptL dot [48] (fillL (zsL (-q).toNat++l) (P:Int)) else aroundL dot (fillL l (q+P)) q):=by
 by_cases c:l=[]
 ·rw[if_pos c,c,ziu]
 ·rw[if_neg c];have h1:=h c;have hp:=zf2 (l:=l) (q:=q) c dot (q+P-l.length).toNat;rw[show(((l.length+(q+(P:Int)-(l.length:Int)).toNat:Nat):Int)-q).toNat=P by omega] at hp;rw[hp];by_cases c2:q<=0
  ·rw[if_pos c2];unfold aroundL fillL;rw[if_pos c2,List.length_append,zbC,List.append_assoc,show((P:Int)-(((-q).toNat+l.length:Nat):Int)).toNat=(q+P-l.length).toNat by omega]
  ·rw[if_neg c2];rfl
theorem zgR{v:List UInt8×Int}(h:Near v){n:Int}(hn:0<=n/\n<=1000)(dot:Bool):
 Ev (λk=>(zbM.f k (S v.1) v.2 n).bind λbt=>((zar.f k bt.1 bt.2.1 n dot).bind λt=>(some t))) (S (fixedL dot v n)):=by
 have hb:=zcn h (v.2+n);refine Ev.bind (zhO h (by omega)) ?_;obtain⟨P,rfl⟩: ∃P:Nat,n=P:=⟨n.toNat,by omega⟩;have hl:=zke (v:=v) (n:=(P:Int));unfold fixedL;generalize roundN v.1 v.2 (v.2+(P:Int))=d at*
 obtain⟨l,q⟩:=d;dsimp only at hb hl ⊢;have hp:=zgi (l:=l) (q:=q) (by omega) (by omega) dot (P:=P) (by omega);rw[zkh hl] at hp;exact Ev.bind hp (Ev.now _)
theorem zmv(m:Nat)(e prec:Int)(dot:Bool):hexL m e prec dot true=Lib.toUpperA (hexL m e prec dot false):=by
 have tail: ∀(lead:List UInt8) (part:Nat) (x:Int),hexTail dot true lead part x prec=Lib.toUpperA (hexTail dot false lead part x prec):=by
  intro lead part x;unfold hexTail;split
  ·rfl
  ·split<;>rfl
 unfold hexL;split<;>exact tail _ _ _
theorem zlg(wide:Bool){a p0:Nat}(ha:a<18446744073709551616)(hb:bareN wide a=p0)(hp:p0<ii wide){mm:Nat}(hm:mm<9007199254740992){e:Int}(h: -1200<=e/\e<=1200)(p m s sp z:Bool)(wid prec v:Int)(hc:codeV v≠0):
 Ev (λk=>zan.f k (a:Int) (szB wide) (mm:Int) e p m s sp z wid prec v) (S (restL wide p0 mm e (clamp prec) v s)):=by
 have hq:=zd6 prec;(have E:mm<18446744073709551616:=by omega);have hn:=zdg E h;have hx:=zgx mm e E;rw[zcX mm h] at hx;unfold zan.f;rw[zfK];simp only[Option.bind_some];refine Ev.bind hx ?_;obtain⟨pr,hpr⟩: ∃pr,clamp prec=pr:=⟨_,rfl⟩;rw[hpr] at hq ⊢;have hsci: ∀n:Int,0<=n->n<=1000->Ev (λk=>zan.j2 k n p m s sp z wid prec v (S (exD mm e).1) (exD mm e).2) (S (scaledL s (bigV v) (exD mm e) n)):=by
  intro n h0 h1;have hbd:=zcn hn (n+1);have hfl:=zb7 (roundN (exD mm e).1 (exD mm e).2 (n+1)).1 (n+1);have hfb:=zcR (d:=roundN (exD mm e).1 (exD mm e).2 (n+1)) hbd.2;refine Ev.step (λk=>by simp only[zan.j2];rfl) ?_;rw[w64 (x:=n+1) (by omega) (by omega)];refine Ev.bind (zeo hn (n+1)) ?_;unfold scaledL;generalize roundN (exD mm e).1 (exD mm e).2 (n+1)=d at*
  obtain⟨l,q⟩:=d;dsimp only at hbd hfl hfb ⊢;refine Ev.bind (zfs l q (n+1) (by omega)) ?_;rw[zeO l (by omega)];simp only[Option.bind_some];exact Ev.bind (zit (zgf (by omega)) (by omega) (by omega) v s) (Ev.now _)
 have hsix:=zhG hq;have M:Ev (λk=>zan.j1 k (a:Int) (szB wide) pr v true p m s sp z wid prec v (S (exD mm e).1) (exD mm e).2) (S (scaledL s (bigV v) (exD mm e) (six pr))):=by
  refine Ev.step (λk=>by simp only[zan.j1];rfl) ?_;refine Ev.congr (λk=>if_pos (by first|rfl|trivial)) ?_;unfold six;by_cases c:pr<0
  ·rw[if_pos c];exact Ev.congr (λk=>if_pos c) (hsci 6 (by decide) (by decide))
  ·rw[if_neg c];exact Ev.congr (λk=>if_neg c) (hsci pr (by omega) hq.2)
 have O:Ev (λk=>zan.j3 k (a:Int) (szB wide) pr true p m s sp z wid prec v (S (exD mm e).1) (exD mm e).2) (S (fixedL s (exD mm e) (six pr))):=by
  refine Ev.step (λk=>by simp only[zan.j3];rfl) ?_;refine Ev.congr (λk=>if_pos (by first|rfl|trivial)) ?_;unfold six;by_cases c:pr<0
  ·rw[if_pos c];exact Ev.congr (λk=>if_pos c) (zgR hn (by decide) s)
  ·rw[if_neg c];exact Ev.congr (λk=>if_neg c) (zgR hn (by omega) s)
 have U:Ev (λk=>zan.j3 k (a:Int) (szB wide) pr false p m s sp z wid prec v (S (exD mm e).1) (exD mm e).2) (S (genOf wide p0 mm e pr (s&&v !=118) (bigV v))):=by
  refine Ev.step (λk=>by simp only[zan.j3];rfl) ?_;refine Ev.congr (λk=>if_neg (by simp)) ?_;exact Ev.bind (zh0 wide ha hb hp E h hq p m s sp z wid prec v) (Ev.now _)
 have hhex:=zmt hm h hq s;have hfit:=(zir mm e hq s false).2;have I:Ev (λk=>zan.j0 k (a:Int) (szB wide) (mm:Int) e pr v true p m s sp z wid prec v (S (exD mm e).1) (exD mm e).2) (S (hexL mm e pr s (v==88))):=by
  refine Ev.step (λk=>by simp only[zan.j0];rfl) ?_;refine Ev.congr (λk=>if_pos (by first|rfl|trivial)) ?_;refine Ev.bind hhex ?_;by_cases c:v=88
  ·refine Ev.congr (λk=>if_pos c) ?_;rw[show(v==88)=true from beq_iff_eq.mpr c,zmv];exact Ev.bind (zj9 _ (by omega)) (Ev.now _)
  ·refine Ev.congr (λk=>if_neg c) ?_;rw[show(v==88)=false from beq_eq_false_iff_ne.mpr c];exact Ev.now _
 have J: ∀{r:ByteArray},(v=101\/v=69->Ev (λk=>zan.j1 k (a:Int) (szB wide) pr v true p m s sp z wid prec v (S (exD mm e).1) (exD mm e).2) r)->(v≠101/\v≠69->Ev (λk=>zan.j1 k (a:Int) (szB wide) pr v false p m s sp z wid prec v (S (exD mm e).1) (exD mm e).2) r)->
  Ev (λk=>zan.j0 k (a:Int) (szB wide) (mm:Int) e pr v false p m s sp z wid prec v (S (exD mm e).1) (exD mm e).2) r:=by
  intro r h1 h2
  refine Ev.step (λk=>by simp only[zan.j0];rfl) ?_
  refine Ev.congr (λk=>if_neg (by simp)) ?_
  by_cases c1:v=101
  ·refine Ev.congr (λk=>if_pos c1) ?_
   rw[show(v==101)=true from beq_iff_eq.mpr c1]
   exact h1 (.inl c1)
  ·refine Ev.congr (λk=>if_neg c1) ?_
   by_cases c2:v=69
   ·rw[show(v==69)=true from beq_iff_eq.mpr c2]
    exact h1 (.inr c2)
   ·rw[show(v==69)=false from beq_eq_false_iff_ne.mpr c2]
    exact h2 ⟨c1,c2⟩
 have K: ∀{r:ByteArray},(v=102\/v=70->Ev (λk=>zan.j3 k (a:Int) (szB wide) pr true p m s sp z wid prec v (S (exD mm e).1) (exD mm e).2) r)->(v≠102/\v≠70->Ev (λk=>zan.j3 k (a:Int) (szB wide) pr false p m s sp z wid prec v (S (exD mm e).1) (exD mm e).2) r)->
  Ev (λk=>zan.j1 k (a:Int) (szB wide) pr v false p m s sp z wid prec v (S (exD mm e).1) (exD mm e).2) r:=by
  intro r h1 h2
  refine Ev.step (λk=>by simp only[zan.j1];rfl) ?_
  refine Ev.congr (λk=>if_neg (by simp)) ?_
  by_cases c1:v=102
  ·refine Ev.congr (λk=>if_pos c1) ?_
   rw[show(v==102)=true from beq_iff_eq.mpr c1]
   exact h1 (.inl c1)
  ·refine Ev.congr (λk=>if_neg c1) ?_
   by_cases c2:v=70
   ·rw[show(v==70)=true from beq_iff_eq.mpr c2]
    exact h1 (.inr c2)
   ·rw[show(v==70)=false from beq_eq_false_iff_ne.mpr c2]
    exact h2 ⟨c1,c2⟩
 (have A:v≠118->(s&&v !=118)=s:=λc=>by rw[bne_iff_ne.mpr c,Bool.and_true]);unfold restL;by_cases D:v=98
 ·(have hcode:codeV v=4:=by rw[D];rfl);rw[hcode,if_neg (by decide),if_neg (by decide),if_neg (by decide),if_pos rfl];refine Ev.congr (λk=>if_pos D) ?_;have hbl:=zd2 10 mm;have hpl:=zcW [] (e:=e) (least:=1) (by decide);refine Ev.bind (zdR (b:=10) (.inl rfl) (n:=mm) (by omega)) ?_;refine Ev.congr (λk=>if_pos (by rw[zay];omega)) ?_;refine Ev.bind (zfa (e:=e) (least:=1) (by omega) (by decide)) ?_;rw[show(⟨#[112]⟩:ByteArray)=S [112] from rfl,zby];refine Ev.congr (λk=>if_pos (by rw[zay,zay,List.length_append,List.length_singleton];simp at hpl;omega)) ?_;rw[zby,List.append_assoc,zfL];exact Ev.now _
 ·refine Ev.congr (λk=>if_neg D) ?_;by_cases cx:v=120\/v=88
  ·(have hcode:codeV v=5:=by rcases cx with e|e<;>rw[e]<;>rfl);rw[hcode,if_neg (by decide),if_neg (by decide),if_neg (by decide),if_neg (by decide),A (by omega)];by_cases B:v=120
   ·refine Ev.congr (λk=>if_pos B) ?_;rw[show(v==120)=true from beq_iff_eq.mpr B];exact I
   ·refine Ev.congr (λk=>if_neg B) ?_;have X:(v==88)=true:=beq_iff_eq.mpr (cx.resolve_left B);have hj:=I;rw[X] at hj ⊢;exact hj
  ·have n120:(v==120)=false:=beq_eq_false_iff_ne.mpr (λe=>cx (.inl e));have n88:(v==88)=false:=beq_eq_false_iff_ne.mpr (λe=>cx (.inr e))
   have go: ∀{r:ByteArray},Ev (λk=>zan.j0 k (a:Int) (szB wide) (mm:Int) e pr v false p m s sp z wid prec v (S (exD mm e).1) (exD mm e).2) r->
    Ev (λk=>if v=120 then(zan.j0 k (a:Int) (szB wide) (mm:Int) e pr v (v==120) p m s sp z wid prec v (S (exD mm e).1) (exD mm e).2) else(zan.j0 k (a:Int) (szB wide) (mm:Int) e pr v (v==88) p m s sp z wid prec v (S (exD mm e).1) (exD mm e).2)) r:=by
    intro r hr
    refine Ev.congr (λk=>if_neg (λe=>cx (.inl e))) ?_
    rw[n88]
    exact hr
   refine go ?_;by_cases ce:v=101\/v=69
   ·(have hcode:codeV v=1:=by rcases ce with e|e<;>rw[e]<;>rfl);rw[hcode,if_pos rfl,A (by omega)];exact J (λ_=>M) (λh=>absurd ce (by omega))
   ·refine J (λh=>absurd h ce) (λ_=>?_);by_cases cf:v=102\/v=70
    ·(have hcode:codeV v=2:=by rcases cf with e|e<;>rw[e]<;>rfl);rw[hcode,if_neg (by decide),if_pos rfl,A (by omega)];exact K (λ_=>O) (λh=>absurd cf (by omega))
    ·refine K (λh=>absurd h cf) (λ_=>?_);have hcode:codeV v=3:=by
      unfold codeV at hc ⊢;rw[if_neg ce,if_neg cf] at hc ⊢;by_cases cg:v=103\/v=71\/v=118
      ·rw[if_pos cg]
      ·rw[if_neg cg,if_neg D,if_neg cx] at hc;exact absurd rfl hc
     rw[hcode,if_neg (by decide),if_neg (by decide),if_pos rfl];exact U
theorem zmw{sign rest:List UInt8}(hs:sign.length<=1/\Asc sign)(hr:Fit rest)(p m s sp z:Bool)(wid prec v:Int):
 Ev (λk=>if z=true then(zam.j4 k (S sign) (S rest) (!m) p m s sp z wid prec v) else(zam.j4 k (S sign) (S rest) false p m s sp z wid prec v)) (S (endL sign rest m z wid),true):=by
 have ha:=hr.1;have hl:=hr.2;have hcl:=zd6 wid;have key: ∀u:Bool,Ev (λk=>zam.j4 k (S sign) (S rest) u p m s sp z wid prec v) (S (padL (sign++(if u then List.replicate (max 0 (min wid 1000)-sign.length-rest.length).toNat 48++rest else rest)) m false wid),true):=by
  intro u;refine Ev.step (λk=>by simp only[zam.j4];rfl) ?_;cases u with
  |true=>
   refine Ev.congr (λk=>if_pos rfl) ?_;rw[zfK];simp only[Option.bind_some];rw[if_pos trivial,zay,zay,w64 (x:=clamp wid-(sign.length:Int)) (by omega) (by omega),w64 (x:=clamp wid-(sign.length:Int)-(rest.length:Int)) (by omega) (by omega)];have hz:=zeN (clamp wid-(sign.length:Int)-(rest.length:Int)) (by omega);(have he:(max 0 (min wid 1000)-(sign.length:Int)-(rest.length:Int)).toNat=(clamp wid-(sign.length:Int)-(rest.length:Int)).toNat:=by unfold clamp;omega);rw[he];refine Ev.bind hz ?_;(have hn:(clamp wid-(sign.length:Int)-(rest.length:Int)).toNat<=1000:=by omega);generalize (clamp wid-(sign.length:Int)-(rest.length:Int)).toNat=n at*
   refine Ev.congr (λk=>if_pos (by rw[zay,zbC];omega)) ?_;rw[zby];refine Ev.congr (λk=>if_pos (by rw[zay,List.length_append,zbC];omega)) ?_;rw[zby];exact Ev.bind (zel (hs.2.app ((zdu n).app ha)) (by rw[List.length_append,List.length_append,zbC];omega) p m s sp z wid prec v) (Ev.now _)
  |false=>
   refine Ev.congr (λk=>if_neg (by simp)) ?_;show Ev _ (S (padL (sign++rest) m false wid),true);refine Ev.congr (λk=>if_pos (by rw[zay,zay];omega)) ?_;rw[zby];exact Ev.bind (zel (hs.2.app ha) (by rw[List.length_append];omega) p m s sp z wid prec v) (Ev.now _)
 unfold endL;cases z with
 |true=>exact Ev.congr (λk=>if_pos rfl) (key (!m))
 |false=>exact Ev.congr (λk=>if_neg (by simp)) (key false)
theorem zhP(sign rest:List UInt8)(m:Bool)(wid:Int):endL sign rest m false wid=padL (sign++rest) m false wid:=rfl
theorem zgS(wide:Bool){a:Nat}(ha:a<18446744073709551616)(p m s sp z:Bool)(wid prec v:Int):
 Ev (λk=>zam.f k (a:Int) (szB wide) p m s sp z wid prec v) (floatS wide a p m s sp z wid prec v):=by
 have hi:=zeh wide;have hk:(partsS wide a).2.2.2≠3:=by
  unfold partsS;split
  ·exact(by decide:(0:Int)≠3)
  ·dsimp only;split<;>decide
 unfold zam.f floatS;refine Ev.bind (ze0 wide a ha) ?_;refine Ev.congr (λk=>if_neg hk) ?_;unfold zct.f;simp only[Option.bind_some];rw[zkf];refine Ev.step (λk=>by simp only[zam.j0];rfl) ?_;by_cases c0:codeV v=0
 ·rw[if_pos c0,c0];refine Ev.congr (λk=>if_pos (by decide)) ?_;exact Ev.now _
 ·rw[if_neg c0,bne_iff_ne.mpr c0];refine Ev.congr (λk=>if_neg (by decide)) ?_
  have signs: ∀{r:ByteArray×Bool} (x8:Bool) (x9 A B:Int),
   Ev (λk=>zam.j2 k (a:Int) (szB wide) x8 x9 A B (S (if p then [43] else if sp then [32] else [])) p m s sp z wid prec v) r->
   Ev (λk=>if sp=true then(zam.j1 k (a:Int) (szB wide) x8 x9 A B (⟨#[32]⟩:ByteArray) p m s sp z wid prec v) else(zam.j1 k (a:Int) (szB wide) x8 x9 A B (⟨#[]⟩:ByteArray) p m s sp z wid prec v)) r:=by
   intro r x8 x9 A B h
   have one: ∀t:ByteArray,t=S (if sp then [32] else [])->Ev (λk=>zam.j1 k (a:Int) (szB wide) x8 x9 A B t p m s sp z wid prec v) r:=by
    intro t ht
    refine Ev.step (λk=>by simp only[zam.j1];rfl) ?_
    rw[ht]
    cases p with
    |true=>exact Ev.congr (λk=>if_pos rfl) h
    |false=>exact Ev.congr (λk=>if_neg (by simp)) h
   cases sp with
   |true=>exact Ev.congr (λk=>if_pos rfl) (one _ rfl)
   |false=>exact Ev.congr (λk=>if_neg (by simp)) (one _ rfl)
  obtain⟨sg,hsg⟩: ∃sg:List UInt8,(if p then [43] else if sp then [32] else [])=sg:=⟨_,rfl⟩;have hsgl:sg.length<=1/\Asc sg:=by
   rw[<-hsg];cases p<;>cases sp<;>exact⟨by decide,by decide⟩
  rw[hsg] at signs;obtain⟨ng,hng⟩: ∃ng:Bool,(a / tt wide%2==1)=ng:=⟨_,rfl⟩;by_cases c1:bareN wide a<ii wide
  ·rw[if_pos c1];have hb:=fEl wide (Nat.le_of_lt c1);have D:=zej wide (Nat.le_of_lt c1);have e1:partsS wide a=((a / tt wide%2==1:Bool),(fM (ff wide) (bareN wide a):Int),(fE (ff wide) (bareN wide a):Int)-(ll wide:Int),0):=by
    unfold partsS;rw[if_pos c1]
   rw[e1,hng];refine signs _ _ _ _ ?_;obtain⟨p0,E⟩: ∃p0,bareN wide a=p0:=⟨_,rfl⟩;rw[E] at c1 hb D ⊢;have hm:=D.2;generalize fM (ff wide) p0=mm at*
   generalize (fE (ff wide) p0:Int)-(ll wide:Int)=e at*
   have hbare:=zlg wide ha E c1 hm (e:=e) (by omega) p m s sp z wid prec v c0;have hfit:=zhH wide c1 (show mm<18446744073709551616 by omega) (e:=e) (by omega) (zd6 prec) v s;have hsl:=zd5 ng 0 p sp;refine Ev.step (λk=>by simp only[zam.j2];rfl) ?_;refine Ev.congr (λk=>if_neg (by decide)) ?_;have j3:Ev (λk=>zam.j3 k (a:Int) (szB wide) (mm:Int) e 0 (S (signL ng 0 p sp)) p m s sp z wid prec v) (S (endL (signL ng 0 p sp) (restL wide p0 mm e (clamp prec) v s) m z wid),true):=by
    refine Ev.step (λk=>by simp only[zam.j3];rfl) ?_;refine Ev.congr (λk=>if_neg (by decide)) ?_;exact Ev.bind hbare (zmw hsl hfit p m s sp z wid prec v)
   cases ng with
   |true=>exact Ev.congr (λk=>if_pos rfl) j3
   |false=>
    refine Ev.congr (λk=>if_neg (by simp)) ?_;(have e3:signL false 0 p sp=sg:=by rw[<-hsg];unfold signL;cases p<;>cases sp<;>rfl);rw[e3] at j3 ⊢;exact j3
  ·rw[if_neg c1];have e1:partsS wide a=((a / tt wide%2==1:Bool),0,0,if bareN wide a=ii wide then 1 else 2):=by
    unfold partsS;rw[if_neg c1]
   rw[e1,hng];by_cases c2:bareN wide a=ii wide
   ·rw[if_pos c2,if_pos c2];refine signs _ _ _ _ ?_;refine Ev.step (λk=>by simp only[zam.j2];rfl) ?_;refine Ev.congr (λk=>if_neg (by decide)) ?_;have hsl:=zd5 ng 1 p sp;have fin: ∀l:List UInt8,l.length<=1->Asc l->Ev (λk=>(zbt.f k (S l++(⟨#[73,110,102]⟩:ByteArray)) p m s sp z wid prec v).bind λt=>some (t,true)) (S (endL l [73,110,102] m false wid),true):=by
     intro l h1 h2;rw[show(⟨#[73,110,102]⟩:ByteArray)=S [73,110,102] from rfl,zby,zhP];exact Ev.bind (zel (h2.app (by decide)) (by rw[List.length_append];simp;omega) p m s sp z wid prec v) (Ev.now _)
    have j3: ∀l:List UInt8,l.length<=1->Asc l->signL ng 1 p sp=(if l=[] then [43] else l)->Ev (λk=>zam.j3 k (a:Int) (szB wide) 0 0 1 (S l) p m s sp z wid prec v) (S (endL (signL ng 1 p sp) [73,110,102] m false wid),true):=by
     intro l h1 h2 h3;refine Ev.step (λk=>by simp only[zam.j3];rfl) ?_;refine Ev.congr (λk=>if_pos (by first|rfl|trivial)) ?_;rw[h3];by_cases c:l=[]
     ·rw[if_pos c];refine Ev.congr (λk=>if_pos ((zbB l).2 c)) ?_;refine Ev.congr (λk=>if_pos (by decide)) ?_;exact fin [43] (by decide) (by decide)
     ·rw[if_neg c];refine Ev.congr (λk=>if_neg (λe=>c ((zbB l).1 e))) ?_;refine Ev.congr (λk=>if_pos (by rw[zay];omega)) ?_;exact fin l h1 h2
    cases ng with
    |true=>exact Ev.congr (λk=>if_pos rfl) (j3 [45] (by decide) (by decide) rfl)
    |false=>
     refine Ev.congr (λk=>if_neg (by simp)) ?_;exact j3 sg hsgl.1 hsgl.2 (by rw[<-hsg];unfold signL;cases p<;>cases sp<;>rfl)
   ·rw[if_neg c2,if_neg c2];refine signs _ _ _ _ ?_;refine Ev.step (λk=>by simp only[zam.j2];rfl) ?_;refine Ev.congr (λk=>if_pos (by first|rfl|trivial)) ?_;(have e3:signL ng 2 p sp=sg:=by rw[<-hsg];unfold signL;cases ng<;>cases p<;>cases sp<;>rfl);rw[e3];refine Ev.congr (λk=>if_pos (by rw[zay];omega)) ?_;rw[show(⟨#[78,97,78]⟩:ByteArray)=S [78,97,78] from rfl,zby,zhP];exact Ev.bind (zel (hsgl.2.app (by decide)) (by rw[List.length_append];simp;omega) p m s sp z wid prec v) (Ev.now _)
theorem zhQ(a:Int){n:Int}(h1:n≠32)(h2:n≠64)(p m s sp z:Bool)(wid prec v:Int):
 Ev (λk=>zam.f k a n p m s sp z wid prec v) (⟨#[]⟩,false):=by
 unfold zam.f;refine Ev.bind (zjk a h1 h2) ?_;refine Ev.congr (λk=>if_pos (by first|rfl|trivial)) ?_;refine Ev.step (λk=>by simp only[zam.j0];rfl) ?_;exact Ev.congr (λk=>if_pos (by first|rfl|trivial)) (Ev.now _)
theorem zgm{f g:Nat->Option (ByteArray×Bool)}{r:ByteArray×Bool}(hf:Ev f r)(hg:Ev g r):Ev (λk=>(f k).bind λx=>((g k).bind λy=>(if x.1.toList=y.1.toList then(some (x.2==y.2)) else(some false)))) true:=by
 refine Ev.bind hf ?_;refine Ev.bind hg ?_;refine Ev.congr (λk=>if_pos rfl) ?_;rw[beq_self_eq_true];exact Ev.now _
theorem zlh{a:Nat}(ha:a<18446744073709551616)(n:Int)(p m s sp z:Bool)(wid prec v:Int):Ev (λk=>zbY.f k (a:Int) n p m s sp z wid prec v) true:=by
 unfold zbY.f;by_cases c1:n=32
 ·subst c1;exact zgm (zd7 false ha p m s sp z wid prec v) (zgS false ha p m s sp z wid prec v)
 ·by_cases c2:n=64
  ·subst c2;exact zgm (zd7 true ha p m s sp z wid prec v) (zgS true ha p m s sp z wid prec v)
  ·exact zgm (zlb (a:Int) c1 c2 p m s sp z wid prec v) (zhQ (a:Int) c1 c2 p m s sp z wid prec v)
theorem ziX{f:Nat->Option Bool}(h:Ev f true):Ev (λk=>(f k).bind λt=>(if t=true then((zbR.f k).bind λt=>(some t)) else(some false))) true:=by
 refine Ev.bind h ?_;exact Ev.congr (λk=>if_pos rfl) zkd
theorem zli{t:ByteArray}{n:Nat}(hn:t.size=n)(h0:0<n)(h1:n<=1000)(a:Nat)(ha:a<18446744073709551616)(p m s sp z:Bool)(wid prec x:Int): ∃v:Int,zb6.f p m s sp z wid prec x (a:Int) t=some (p,m,s,sp,z,wid,prec,v):=by
 have hm:=Nat.mod_lt a h0;have ht:Int.tmod (a:Int) (n:Int)=((a%n:Nat):Int):=tmodN a n;unfold zb6.f;rw[hn,u64c n (by omega),if_neg (by omega),ht,w64 (x:=((a%n:Nat):Int)) (by omega) (by omega),if_pos (by omega),if_pos (by omega)];exact⟨_,rfl⟩
theorem zki{sz:Option Int}{vb:Option (Bool×Bool×Bool×Bool×Bool×Int×Int×Int)}{sm:Nat->Int->Bool->Bool->Bool->Bool->Bool->Int->Int->Int->Option Bool}{n:Int}{p m s sp z:Bool}{wid prec v:Int}
 (h1:sz=some n) (h2:vb=some (p,m,s,sp,z,wid,prec,v)) (h3:Ev (λk=>sm k n p m s sp z wid prec v) true):
 Ev (λk=>sz.bind λt=>(vb.bind λb=>((sm k t b.1 b.2.1 b.2.2.1 b.2.2.2.1 b.2.2.2.2.1 b.2.2.2.2.2.1 b.2.2.2.2.2.2.1 b.2.2.2.2.2.2.2).bind λt=>(if t=true then((zbR.f k).bind λt=>(some t)) else(some false))))) true:=by
 subst h1 h2;simp only[Option.bind_some];exact ziX h3
end Go.Proofs.YtilidabdbhaljaaGreatDoor.Pure
end
section
namespace Go.Proofs.YtilidabdbhaljaaGreatDoor.Fn
open Go.RowKit Go.Proofs.YtilidabdbhaljaaGreatDoorW.PrintWords Go.Proofs.YtilidabdbhaljaaGreatDoorW.PrintLast Go.Proofs.YtilidabdbhaljaaGreatDoorW.PrintMore
set_option maxHeartbeats 8000000
set_option maxRecDepth 100000
section
attribute [local go_sem] fnW_0 fnW_1 fnW_2 fnW_3 fnW_4 fnW_5 fnW_guard fnW_eql zaC zaD zaI zaJ
def platenlaw06_FloatsGeneral.f(k:Nat)(B:Int)(D:Bool)(E:Bool)(I:Bool)(J:Bool)(K:Bool)(M:Bool)(O:Int)(U:Int)(X:Int)(a2:Int):Option (Bool):=(zb9.f D).bind λY=>((zb6.f E I J K M O U X a2 (⟨#[118,103,71]⟩:ByteArray)).bind λA=>((zbY.f k B Y A.1 A.2.1 A.2.2.1 A.2.2.2.1 A.2.2.2.2.1 A.2.2.2.2.2.1 A.2.2.2.2.2.2.1 A.2.2.2.2.2.2.2).bind λZ=>(if Z=true then((zbR.f k).bind λaa=>(some aa)) else(some false))))
def platenlaw06_FloatsGeneral.T1:Bool×List (List Nat×List Nat):=(true,[([],[]),([0],[0]),([],[]),([2],[2]),([3],[3]),([],[]),([],[]),([5,6,4],[5,6]),([1,4,7,7],[1,4,7]),([8,8],[8]),([9,9],[9]),([9,10],[9,10]),([11,10,0,1,2,3,4,5,6,7,8,9,10,11],[11])])
def platenlaw06_FloatsGeneral.B1:List Nat:=[0,1,0,4,12,0,0,124,255,511,1023,2047,4095]
theorem platenlaw06_FloatsGeneral.tab1:rtab .any (opsOf Tryz.f4 1)=platenlaw06_FloatsGeneral.T1:=by kernel_rfl
theorem platenlaw06_FloatsGeneral.bits1:waitsOk platenlaw06_FloatsGeneral.T1.2 platenlaw06_FloatsGeneral.B1=true:=by kernel_rfl
theorem platenlaw06_FloatsGeneral.calls(k:Nat)(O:Int)(J:Bool)(U:Bool)(X:Bool)(Y:Bool)(Z:Bool)(aa:Bool)(ab:Int)(ac:Int)(ad:Int)(a2:Int)(r:Bool)(w:World)(h:platenlaw06_FloatsGeneral.f k O J U X Y Z aa ab ac ad a2=some r):
 Calls Tryz.prog 4 #[.agg #[.int .u64 O,.bool J],.agg #[.bool U,.bool X,.bool Y,.bool Z,.bool aa,.int .i64 ab,.int .i64 ac,.int .i32 ad],.int .u64 a2] w λe w'=>e= .returned (.bool r)/\Below w.heap.size w w':=by
 have aA:=Tryz.underlying24;have aB:=Tryz.underlying26;have HB:=zaa.mk (Below.refl w.heap.size w);have H:((zb9.f J).bind λae=>((zb6.f U X Y Z aa ab ac ad a2 (⟨#[118,103,71]⟩:ByteArray)).bind λM=>((zbY.f k O ae M.1 M.2.1 M.2.2.1 M.2.2.2.1 M.2.2.2.2.1 M.2.2.2.2.2.1 M.2.2.2.2.2.2.1 M.2.2.2.2.2.2.2).bind λap=>(if ap=true then((zbR.f k).bind λar=>(some ar)) else(some false)))))=some r:=h;clear h;replace H:=bs H;obtain⟨ae,A4,H⟩:=H;replace H:=bs H;obtain⟨⟨ah,ai,aj,ak,al,am,an,ao⟩,A5,H⟩:=H;dsimp only at H;replace H:=bs H;obtain⟨ap,A6,H⟩:=H;by_cases c7:ap=true
 (·subst c7;replace H:=hT H;replace H:=bs H;obtain⟨ar,A8,H⟩:=H;obtain rfl:=Option.some.inj H;go_enter Tryz.func4,Tryz.ntmps4;(try go_wp2_with (first|((with_reducible refine zae (N:=3) rfl ?_);refine zaf rfl (N:=3) rfl (cs:=#[.int .u64 O,.bool J]) (t:=24) gz ?_;intro E hg w9 hbox hb;have au:=gN bz hg;have av:=gN bz hg;have B:=zaa.mk hbox;replace HB:=bN bz hb;clear hb hbox hg)|((with_reducible refine zae (N:=4) rfl ?_);refine zaf rfl (N:=4) rfl (cs:=#[.bool U,.bool X,.bool Y,.bool Z,.bool aa,.int .i64 ab,.int .i64 ac,.int .i32 ad]) (t:=26) gz ?_;intro D hg ay hbox hb;have aw:=gN bz hg;have ax:=gN bz hg;have af:=lN (g:=E) hg bk;have ag:=rN (g:=E) hg bk;replace B:=kN (g:=E) hb bk;have A:=zaa.mk hbox;replace HB:=bN bz hb;clear hb hbox hg)));replace B:=zaa.mk (zas B.out);replace A:=zaa.mk (zas A.out);replace HB:=zaa.mk (zaP HB.out);refine zbq (n:=13) (S:=λw'=>w'.cell? ⟨E,0,none⟩=some (.int .u64 O)/\w'.cell? ⟨E,1,none⟩=some (.bool J)/\w'.cell? ⟨D,0,none⟩=some (.bool U)/\w'.cell? ⟨D,1,none⟩=some (.bool X)/\w'.cell? ⟨D,2,none⟩=some (.bool Y)/\w'.cell? ⟨D,3,none⟩=some (.bool Z)/\w'.cell? ⟨D,4,none⟩=some (.bool aa)/\w'.cell? ⟨D,5,none⟩=some (.int .i64 ab)/\w'.cell? ⟨D,6,none⟩=some (.int .i64 ac)/\w'.cell? ⟨D,7,none⟩=some (.int .i32 ad)) (ds:=[]) #[false,false,false,false,false,false,false,false,false,false,false,false,false] (by kernel_rfl) rfl rfl ⟨(zab B.out 0).trans rfl,(zab B.out 1).trans rfl,(zab A.out 0).trans rfl,(zab A.out 1).trans rfl,(zab A.out 2).trans rfl,(zab A.out 3).trans rfl,(zab A.out 4).trans rfl,(zab A.out 5).trans rfl,(zab A.out 6).trans rfl,(zab A.out 7).trans rfl⟩ (λhHeld=>?_);refine zbi platenlaw06_FloatsGeneral.tab1 platenlaw06_FloatsGeneral.bits1 (λI HW_=>?_);generalize ay.drew=aC at B A HB hHeld ⊢;refine pz (i:=0) (N:=7) I ?_;refine pz (i:=2) (N:=9) I ?_;refine pz (i:=6) (N:=13) I ?_;refine tz (i:=1) (N:=8) rfl I HW_ hHeld (by(rintro w' ⟨s0,s1,s2,s3,s4,s5,s6,s7,s8,s9⟩;go_simp;with_reducible rfl)) ?_;refine tz (i:=3) (N:=10) rfl I HW_ hHeld (by(rintro w' ⟨s0,s1,s2,s3,s4,s5,s6,s7,s8,s9⟩;go_simp;with_reducible rfl)) ?_;refine tz (i:=5) (N:=12) rfl I HW_ hHeld (by(rintro w' ⟨s0,s1,s2,s3,s4,s5,s6,s7,s8,s9⟩;go_simp;with_reducible rfl)) ?_;refine oz (i:=4) (N:=some 11) I λK hK=>?_;refine zcB Tryz.func10 (by kernel_rfl) rfl #[.bool J] (by rfl) rfl rfl lz ?_;(with_reducible refine(zb9.calls J ae _ A4.out).mono ?_);rintro e w' ⟨rfl,⟨nd,rfl⟩⟩;refine⟨_,rfl,?_⟩;refine hK.out _ _ ⟨bc B 0,bc B 1,bc A 0,bc A 1,bc A 2,bc A 3,bc A 4,bc A 5,bc A 6,bc A 7⟩ (λhHeld=>?_);clear hK K;refine nz ?_;refine oz (i:=7) (N:=some 14) I λK hK=>?_;refine gG Tryz.func11 (zb6.calls U X Y Z aa ab ac ad a2 (⟨#[118,103,71]⟩:ByteArray) ah ai aj ak al am an ao _ A5.out) ?_;intro aD hb;replace B:=kN (g:=E) hb bk;replace A:=kN (g:=D) hb bk;replace HB:=bN bz hb;clear hb;refine hK.out _ _ ⟨bc B 0,bc B 1,bc A 0,bc A 1,bc A 2,bc A 3,bc A 4,bc A 5,bc A 6,bc A 7⟩ (λhHeld=>?_);clear hK K;refine nz ?_;refine oz (i:=8) (N:=some 15) I λK hK=>?_;refine gG Tryz.func9 (zbY.calls k O ae ah ai aj ak al am an ao true _ A6.out) ?_;intro aE hb;replace B:=kN (g:=E) hb bk;replace A:=kN (g:=D) hb bk;replace HB:=bN bz hb;clear hb;refine hK.out _ _ ⟨bc B 0,bc B 1,bc A 0,bc A 1,bc A 2,bc A 3,bc A 4,bc A 5,bc A 6,bc A 7⟩ (λhHeld=>?_);clear hK K;refine nz ?_;refine pz (i:=9) (N:=16) I ?_;refine oz (i:=10) (N:=some 17) I λK hK=>?_;refine gG Tryz.func12 (zbR.calls k ar _ A8.out) ?_;intro aF hb;replace B:=kN (g:=E) hb bk;replace A:=kN (g:=D) hb bk;replace HB:=bN bz hb;clear hb;refine hK.out _ _ ⟨bc B 0,bc B 1,bc A 0,bc A 1,bc A 2,bc A 3,bc A 4,bc A 5,bc A 6,bc A 7⟩ (λhHeld=>?_);clear hK K;refine nz ?_;refine pz (i:=11) (N:=18) I ?_;refine pz (i:=12) (N:=6) I ?_;refine dz I ?_;(try go_wp2);go_ret;exact⟨ez,bz⟩);replace c7:=Bool.eq_false_iff.mpr c7;subst c7;replace H:=hF H;obtain rfl:=Option.some.inj H;go_enter Tryz.func4,Tryz.ntmps4;(try go_wp2_with (first|((with_reducible refine zae (N:=3) rfl ?_);refine zaf rfl (N:=3) rfl (cs:=#[.int .u64 O,.bool J]) (t:=24) gz ?_;intro E hg aG hbox hb;have au:=gN bz hg;have av:=gN bz hg;have B:=zaa.mk hbox;replace HB:=bN bz hb;clear hb hbox hg)|((with_reducible refine zae (N:=4) rfl ?_);refine zaf rfl (N:=4) rfl (cs:=#[.bool U,.bool X,.bool Y,.bool Z,.bool aa,.int .i64 ab,.int .i64 ac,.int .i32 ad]) (t:=26) gz ?_;intro D hg az hbox hb;have aw:=gN bz hg;have ax:=gN bz hg;have af:=lN (g:=E) hg bk;have ag:=rN (g:=E) hg bk;replace B:=kN (g:=E) hb bk;have A:=zaa.mk hbox;replace HB:=bN bz hb;clear hb hbox hg)));replace B:=zaa.mk (zas B.out);replace A:=zaa.mk (zas A.out);replace HB:=zaa.mk (zaP HB.out);refine zbq (n:=13) (S:=λw'=>w'.cell? ⟨E,0,none⟩=some (.int .u64 O)/\w'.cell? ⟨E,1,none⟩=some (.bool J)/\w'.cell? ⟨D,0,none⟩=some (.bool U)/\w'.cell? ⟨D,1,none⟩=some (.bool X)/\w'.cell? ⟨D,2,none⟩=some (.bool Y)/\w'.cell? ⟨D,3,none⟩=some (.bool Z)/\w'.cell? ⟨D,4,none⟩=some (.bool aa)/\w'.cell? ⟨D,5,none⟩=some (.int .i64 ab)/\w'.cell? ⟨D,6,none⟩=some (.int .i64 ac)/\w'.cell? ⟨D,7,none⟩=some (.int .i32 ad)) (ds:=[]) #[false,false,false,false,false,false,false,false,false,false,false,false,false] (by kernel_rfl) rfl rfl ⟨(zab B.out 0).trans rfl,(zab B.out 1).trans rfl,(zab A.out 0).trans rfl,(zab A.out 1).trans rfl,(zab A.out 2).trans rfl,(zab A.out 3).trans rfl,(zab A.out 4).trans rfl,(zab A.out 5).trans rfl,(zab A.out 6).trans rfl,(zab A.out 7).trans rfl⟩ (λhHeld=>?_);refine zbi platenlaw06_FloatsGeneral.tab1 platenlaw06_FloatsGeneral.bits1 (λI HW_=>?_);generalize az.drew=aH at B A HB hHeld ⊢;refine pz (i:=0) (N:=7) I ?_;refine pz (i:=2) (N:=9) I ?_;refine pz (i:=6) (N:=13) I ?_;refine tz (i:=1) (N:=8) rfl I HW_ hHeld (by(rintro w' ⟨s0,s1,s2,s3,s4,s5,s6,s7,s8,s9⟩;go_simp;with_reducible rfl)) ?_;refine tz (i:=3) (N:=10) rfl I HW_ hHeld (by(rintro w' ⟨s0,s1,s2,s3,s4,s5,s6,s7,s8,s9⟩;go_simp;with_reducible rfl)) ?_;refine tz (i:=5) (N:=12) rfl I HW_ hHeld (by(rintro w' ⟨s0,s1,s2,s3,s4,s5,s6,s7,s8,s9⟩;go_simp;with_reducible rfl)) ?_;refine oz (i:=4) (N:=some 11) I λK hK=>?_;refine zcB Tryz.func10 (by kernel_rfl) rfl #[.bool J] (by rfl) rfl rfl lz ?_;(with_reducible refine(zb9.calls J ae _ A4.out).mono ?_);rintro e w' ⟨rfl,⟨nd,rfl⟩⟩;refine⟨_,rfl,?_⟩;refine hK.out _ _ ⟨bc B 0,bc B 1,bc A 0,bc A 1,bc A 2,bc A 3,bc A 4,bc A 5,bc A 6,bc A 7⟩ (λhHeld=>?_);clear hK K;refine nz ?_;refine oz (i:=7) (N:=some 14) I λK hK=>?_;refine gG Tryz.func11 (zb6.calls U X Y Z aa ab ac ad a2 (⟨#[118,103,71]⟩:ByteArray) ah ai aj ak al am an ao _ A5.out) ?_;intro aI hb;replace B:=kN (g:=E) hb bk;replace A:=kN (g:=D) hb bk;replace HB:=bN bz hb;clear hb;refine hK.out _ _ ⟨bc B 0,bc B 1,bc A 0,bc A 1,bc A 2,bc A 3,bc A 4,bc A 5,bc A 6,bc A 7⟩ (λhHeld=>?_);clear hK K;refine nz ?_;refine oz (i:=8) (N:=some 15) I λK hK=>?_;refine gG Tryz.func9 (zbY.calls k O ae ah ai aj ak al am an ao false _ A6.out) ?_;intro aJ hb;replace B:=kN (g:=E) hb bk;replace A:=kN (g:=D) hb bk;replace HB:=bN bz hb;clear hb;refine hK.out _ _ ⟨bc B 0,bc B 1,bc A 0,bc A 1,bc A 2,bc A 3,bc A 4,bc A 5,bc A 6,bc A 7⟩ (λhHeld=>?_);clear hK K;refine nz ?_;refine pz (i:=9) (N:=16) I ?_;refine qz (i:=10) (N:=17) I ?_;refine pz (i:=11) (N:=18) I ?_;refine pz (i:=12) (N:=6) I ?_;refine dz I ?_;(try go_wp2);go_ret;exact⟨ez,bz⟩
end
end Go.Proofs.YtilidabdbhaljaaGreatDoor.Fn
end
section
namespace Go.Proofs.YtilidabdbhaljaaGreatDoor.Pure
open Go.RowKit Go.Proofs.YtilidabdbhaljaaGreatDoorW.PrintWords Go.Proofs.YtilidabdbhaljaaGreatDoorW.PrintLast Go.Proofs.YtilidabdbhaljaaGreatDoorW.PrintMore Go.Proofs.YtilidabdbhaljaaGreatDoor.Fn
theorem FloatsGeneral: ∀(A:Int) (I:Bool) (J:Bool) (K:Bool) (M:Bool) (O:Bool) (U:Bool) (B:Int) (D:Int) (E:Int) (a2:Int),(Lit.int .u64 A).wf=true->(Lit.int .i64 B).wf=true->(Lit.int .i64 D).wf=true->(Lit.int .i32 E).wf=true->(Lit.int .u64 a2).wf=true-> ∃k,platenlaw06_FloatsGeneral.f k A I J K M O U B D E a2=some true:=by
 intro a0 wide p m s sp z wid prec x c h0 _ _ _ h4;obtain⟨a,rfl,ha⟩:=wf_u64 h0;obtain⟨b,rfl,hb⟩:=wf_u64 h4;obtain⟨v,hv⟩:=zli (t:=(⟨#[118,103,71]⟩:ByteArray)) (n:=3) rfl (by decide) (by decide) b hb p m s sp z wid prec x;refine Ev.rounds (g:=λk=>platenlaw06_FloatsGeneral.f k (a:Int) wide p m s sp z wid prec x (b:Int)) ?_;exact zki (sm:=λk=>zbY.f k (a:Int)) (znd wide) hv (zlh ha (szB wide) p m s sp z wid prec v)
end Go.Proofs.YtilidabdbhaljaaGreatDoor.Pure
end
