/- The law FloatsExact: the walks through its functions and its plain law (part 6). Own texts and the kit's printed words for this seat, without what the law does not use: put together by merge.py (of this work). -/
import Derived.Test.YtecpgdfnamkfdaaGreatDoorMFloatsExact5
import Derived.Handy
section
namespace Go.Proofs.YtecpgdfnamkfdaaGreatDoor.Pure
open Go.RowKit Go.Proofs.YtecpgdfnamkfdaaGreatDoorW.PrintWords Go.Proofs.YtecpgdfnamkfdaaGreatDoorW.PrintLast Go.Proofs.YtecpgdfnamkfdaaGreatDoorW.PrintMore Go.Proofs.YtecpgdfnamkfdaaGreatDoor.Fn
set_option linter.unusedVariables false
set_option linter.unusedSimpArgs false
theorem zfq{l:List UInt8}{q:Int}(h:InForm l q)(z:Nat):decOf (val l*10^z) (q-l.length-z)=(l,q):=by
  rw[zb7]
  exact zdm h
theorem zd2(l:List UInt8)(z:Nat):val (l++zsL z)=val l*10^z:=by
  rw[val_append,zbe]
  unfold zsL
  rw[zbW]
  omega
theorem zgf{A B:List UInt8}(dot:Bool)(hA:AllD A)(hB:AllD B)(hl:A.length+B.length≤1999):Ev (fun k=>zad.f k (S (ptL dot A B))) (readR (A++B) (A.length:Int)):=by
  have hp:=zbV dot A B
  have e0:ptL dot A B=ptL dot A B++[]:=(List.append_nil _).symm
  rw[e0]
  refine zfU dot hA hB (by rw[List.append_nil];omega) (fun fl=>?_)
  have h:=zhC (s:=ptL dot A B++[]) (acc:=A++B) (hA.append hB) (by rw[List.length_append];omega) (p:=(A.length:Int)) (by omega) fl
  rw[List.append_nil] at h ⊢
  exact h
theorem zhH{l:List UInt8}(h:AllD l)(n:Nat):AllD (l.take n)∧AllD (l.drop n):=⟨h.take n,fun c hc=>h c (List.mem_of_mem_drop hc)⟩
theorem zdM{v:List UInt8×Int}(h:Near v){q:Nat}(hq:q≤400): ∃A B,fixedL false v (q:Int)=ptL false A B∧AllD A∧AllD B∧A≠[]∧B.length=q∧A.length≤1500∧
    readR (A++B) (A.length:Int)=(S (roundN v.1 v.2 (v.2+(q:Int))).1,(roundN v.1 v.2 (v.2+(q:Int))).2,true):=by
  have hb:=zbD h (v.2+(q:Int))
  have hf:=zcg h.form (v.2+(q:Int))
  have hlow:=zg6 (v:=v) (n:=(q:Int))
  unfold fixedL
  generalize roundN v.1 v.2 (v.2+(q:Int))=d at*
  obtain⟨l,p⟩:=d
  dsimp only at hb hf hlow ⊢
  have rd: ∀A B:List UInt8,A≠[]→ ∀z:Nat,val (A++B)=val l*10^z→(A.length:Int)-((A++B).length:Int)=p-l.length-z→readR (A++B) (A.length:Int)=(S l,p,true):=by
    intro A B hA z e1 e2
    unfold readR
    rw[e1,e2,zfq hf z,bne_iff_ne.mpr (fun e=>hA (List.append_eq_nil_iff.1 e).1)]
  by_cases c:l=[]
  · rw[if_pos c]
    have hp:p=0:=hf.2.2.2 c
    refine⟨[48],zsL (q:Int).toNat,rfl,zcd 1,zcd _,by simp,by rw[zbe];omega,by simp,?_⟩
    refine rd _ _ (by simp) q ?_ ?_
    · rw[c,show([48]:List UInt8)++zsL (q:Int).toNat=zsL 1++zsL (q:Int).toNat from rfl,zdE]
      unfold zsL
      rw[zbW]
      simp[za4]
    · rw[c,hp,List.length_append,zbe]
      simp
      omega
  · rw[if_neg c]
    have hl:=hlow c
    by_cases c2:p≤0
    · rw[if_pos c2]
      have hlen:(zsL (-p).toNat++l).length=(-p).toNat+l.length:=by rw[List.length_append,zbe]
      have hfl:=zbf (zsL (-p).toNat++l) (q:Int)
      refine⟨[48],fillL (zsL (-p).toNat++l) (q:Int),rfl,zcd 1,(((zcd _).append hf.1).append (zcd _)),by simp,by omega,by simp,?_⟩
      refine rd _ _ (by simp) ((q:Int)-((zsL (-p).toNat++l).length:Int)).toNat ?_ ?_
      · unfold fillL
        rw[show([48]:List UInt8)=zsL 1 from rfl,zdE,zd2,zdE]
      · rw[List.length_append,List.length_singleton]
        omega
    · rw[if_neg c2]
      have hfl:=zbf l (p+(q:Int))
      have hA:AllD (fillL l (p+(q:Int))):=hf.1.append (zcd _)
      unfold aroundL
      rw[if_neg c2]
      have e1:fillL (fillL l (p+(q:Int))) p=fillL l (p+(q:Int)):=by
        rw[fillL,show(p-((fillL l (p+(q:Int))).length:Int)).toNat=0 by omega]
        exact List.append_nil _
      rw[e1]
      have hta:=zhH hA p.toNat
      have ht:((fillL l (p+(q:Int))).take p.toNat).length=p.toNat:=by rw[List.length_take];omega
      refine⟨_,_,rfl,hta.1,hta.2,fun e=>by rw[e] at ht;simp at ht;omega,by rw[List.length_drop];omega,by omega,?_⟩
      rw[ht]
      have e2:=List.take_append_drop p.toNat (fillL l (p+(q:Int)))
      have r:=rd ((fillL l (p+(q:Int))).take p.toNat) ((fillL l (p+(q:Int))).drop p.toNat) (fun e=>by rw[e] at ht;simp at ht;omega) (p+(q:Int)-(l.length:Int)).toNat (by rw[e2];unfold fillL;exact zd2 _ _) (by rw[e2,ht];omega)
      rw[ht] at r
      exact r
theorem zdw{v:List UInt8×Int}(h:Near v){q:Nat}(hq:q≤400)(big:Bool): ∃(a:UInt8) (B:List UInt8) (x:Int),scaledL false big v (q:Int)=ptL false [a] B++powL (eMark big) x 2∧48≤a.toNat∧a.toNat≤57∧AllD B∧B.length=q∧
    Ev (fun k=>zad.f k (S (ptL false [a] B++powL (eMark big) x 2))) (S (roundN v.1 v.2 ((q:Int)+1)).1,(roundN v.1 v.2 ((q:Int)+1)).2,true):=by
  have hb:=zbD h ((q:Int)+1)
  have hf:=zcg h.form ((q:Int)+1)
  have hlen:=(zg5 h.form (q+1)).1
  rw[show((q+1:Nat):Int)=(q:Int)+1 by omega] at hlen
  unfold scaledL
  generalize roundN v.1 v.2 ((q:Int)+1)=d at*
  obtain⟨l,p⟩:=d
  dsimp only at hb hf hlen ⊢
  have hfl:=zbf l ((q:Int)+1)
  have hA:AllD (fillL l ((q:Int)+1)):=hf.1.append (zcd _)
  have hv:val (fillL l ((q:Int)+1))=val l*10^((q:Int)+1-(l.length:Int)).toNat:=zd2 _ _
  have hx:=zbZ (d:=(l,p)) (by dsimp only;omega)
  have hfirst:l≠[]→firstL (l,p)=p-1:=fun c=>by unfold firstL;rw[if_neg c]
  have hnil:l=[]→firstL (l,p)=0∧p=0:=fun c=>⟨by unfold firstL;rw[if_pos c],hf.2.2.2 c⟩
  obtain⟨x,hxe⟩: ∃x,firstL (l,p)=x:=⟨_,rfl⟩
  rw[hxe] at hx hfirst hnil ⊢
  have hread:=zhG hA (fun e=>by rw[e] at hfl;simp at hfl;omega) (by omega) (e:=x) (by omega) false big
  obtain⟨F,hF⟩: ∃F,fillL l ((q:Int)+1)=F:=⟨_,rfl⟩
  rw[hF] at hfl hA hv hread ⊢
  have hFl:F.length=q+1:=by omega
  have hr:readR F (1+x)=(S l,p,true):=by
    unfold readR
    rw[hv,bne_iff_ne.mpr (fun e=>by rw[e] at hFl;simp at hFl)]
    by_cases c:l=[]
    · obtain⟨h1,h2⟩:=hnil c
      rw[c,h2,za4,Nat.zero_mul,zb1]
    · have h1:=hfirst c
      rw[show 1+x-(F.length:Int)=p-l.length-(((q:Int)+1-(l.length:Int)).toNat:Int) by omega,zfq hf]
  rw[hr] at hread
  match F,hFl with
  |a::B,hFl=>
    have ha:=hA a (by simp)
    exact⟨a,B,x,rfl,ha.1,ha.2,fun c hc=>hA c (by simp[hc]),by simpa using hFl,hread⟩
theorem zfV{r:Bool}{R:List UInt8}(hR:R=[]∨ ∃c t,R=c::t∧(c=46∨c=101∨c=69))(x1:Int)(A:Bool)(B:Int)(y0:ByteArray)(y1:Int)(b0 b1 b2 b3 b4:Bool)(i5 i6 i7:Int)(z0:ByteArray)(z1:Int)(w0:ByteArray)(w1:Int): ∀(D P:List UInt8),AllD D→(P++(D++R)).length≤1000000→
    Ev (fun k=>platenlaw06_FloatsExact.j2 k x1 (S (P++(D++R))) A B ((P.length+D.length:Nat):Int) y0 y1 b0 b1 b2 b3 b4 i5 i6 i7 z0 z1 w0 w1) r→
    Ev (fun k=>platenlaw06_FloatsExact.l0 k x1 (S (P++(D++R))) A B (P.length:Int) y0 y1 b0 b1 b2 b3 b4 i5 i6 i7 z0 z1 w0 w1) r
  |[],P,_,hl,h=>by
    rw[List.nil_append] at h hl ⊢
    rw[show((P.length+([]:List UInt8).length:Nat):Int)=(P.length:Int) by simp] at h
    refine Ev.step (fun k=>by simp only[platenlaw06_FloatsExact.l0];rfl) ?_
    rcases hR with e|⟨c,t,e,hc⟩
    · subst e
      rw[List.append_nil] at h ⊢
      exact Ev.congr (fun k=>if_neg (by rw[zau];omega)) h
    · subst e
      have hlen:(P++c::t).length=P.length+(t.length+1):=by simp
      refine Ev.congr (fun k=>if_pos (by rw[zau,hlen];omega)) ?_
      refine Ev.congr (fun k=>if_pos (by omega)) ?_
      rw[zch]
      rcases hc with e|e|e
      · subst e
        exact Ev.congr (fun k=>if_pos (by decide)) h
      · subst e
        refine Ev.congr (fun k=>if_neg (by decide)) ?_
        exact Ev.congr (fun k=>if_pos (by decide)) h
      · subst e
        refine Ev.congr (fun k=>if_neg (by decide)) ?_
        refine Ev.congr (fun k=>if_neg (by decide)) ?_
        exact Ev.congr (fun k=>if_pos (by decide)) h
  |c::D,P,hD,hl,h=>by
    have hc:=hD c (by simp)
    have hlen:(P++(c::D++R)).length=P.length+(D.length+1+R.length):=by simp;omega
    have hw:wrap64 ((P.length:Int)+1)=((P.length+1:Nat):Int):=by rw[w64 (by omega) (by omega)];rfl
    have e1:P++(c::D++R)=(P++[c])++(D++R):=by simp
    have e2:((P.length+1:Nat):Int)=((P++[c]).length:Int):=by simp
    have e3:((P.length+(c::D).length:Nat):Int)=(((P++[c]).length+D.length:Nat):Int):=by simp;omega
    have hb:bt (S (P++(c::D++R))) (P.length:Int)=(c.toNat:Int):=zch P c (D++R)
    refine Ev.step (fun k=>by simp only[platenlaw06_FloatsExact.l0];rfl) ?_
    refine Ev.congr (fun k=>if_pos (by rw[zau,hlen];omega)) ?_
    refine Ev.congr (fun k=>if_pos (by omega)) ?_
    rw[hb]
    refine Ev.congr (fun k=>if_neg (by omega)) ?_
    refine Ev.congr (fun k=>if_neg (by omega)) ?_
    refine Ev.congr (fun k=>if_neg (by omega)) ?_
    rw[hw]
    rw[e1] at hl
    rw[e1,e3] at h
    rw[e1,e2]
    exact zfV hR x1 A B y0 y1 b0 b1 b2 b3 b4 i5 i6 i7 z0 z1 w0 w1 D (P++[c]) (fun y hy=>hD y (by simp[hy])) hl h
theorem zfr{r:Bool}{D R:List UInt8}(hR:R=[]∨ ∃c t,R=c::t∧(c=46∨c=101∨c=69))(hD:AllD D)(hl:(D++R).length≤1000000)(x1:Int)(A:Bool)(B:Int)(y0:ByteArray)(y1:Int)(b0 b1 b2 b3 b4:Bool)(i5 i6 i7:Int)(z0:ByteArray)(z1:Int)(w0:ByteArray)(w1:Int)
    (h:Ev (fun k=>platenlaw06_FloatsExact.j2 k x1 (S (D++R)) A B (D.length:Int) y0 y1 b0 b1 b2 b3 b4 i5 i6 i7 z0 z1 w0 w1) r):
    Ev (fun k=>platenlaw06_FloatsExact.l0 k x1 (S (D++R)) A B 0 y0 y1 b0 b1 b2 b3 b4 i5 i6 i7 z0 z1 w0 w1) r:=by
  have h2:=zfV (r:=r) hR x1 A B y0 y1 b0 b1 b2 b3 b4 i5 i6 i7 z0 z1 w0 w1 D [] hD (by simpa using hl)
  simp only[List.nil_append,List.length_nil,Nat.zero_add] at h2
  exact h2 h
theorem ziA{v:List UInt8×Int}(h:Near v){q:Nat}(hq:q≤400){x:Int}(hx:x=102∨x=70):Ev (fun k=>platenlaw06_FloatsExact.j0 k (q:Int) (S (fixedL false v (q:Int))) false (S v.1) v.2 false false false false false (-1) (q:Int) x) true:=by
  obtain⟨A,B,hT,hA,hB,hne,hBl,hAl,hr⟩:=zdM h hq
  have hread:=zgf false hA hB (by omega)
  rw[hr] at hread
  have hround:=zcD h ((q:Int)+1)
  have hplaces:=zdK h (n:=(q:Int)) (by omega)
  have I:1≤A.length:=Nat.succ_le_of_lt (List.length_pos_iff.2 hne)
  rw[hT]
  refine Ev.step (fun k=>by simp only[platenlaw06_FloatsExact.j0];rfl) ?_
  refine Ev.congr (fun k=>if_neg (by simp)) ?_
  refine Ev.bind hread ?_
  rw[w64 (x:=(q:Int)+1) (by omega) (by omega)]
  refine Ev.bind hround ?_
  obtain⟨R,hTR,hR,hsz⟩: ∃R,ptL false A B=A++R∧(R=[]∨ ∃c t,R=c::t∧(c=46∨c=101∨c=69))∧((A++R).length:Int)=(if q=0 then(A.length:Int) else(A.length:Int)+1+q):=by
    unfold ptL
    by_cases c:B=[]
    · rw[if_pos ⟨c,rfl⟩]
      refine⟨[],(List.append_nil _).symm,.inl rfl,?_⟩
      rw[c] at hBl
      simp at hBl
      rw[if_pos hBl.symm]
      simp
    · rw[if_neg (fun e=>c e.1)]
      refine⟨46::B,rfl,.inr ⟨46,B,rfl,.inl rfl⟩,?_⟩
      have:1≤B.length:=Nat.succ_le_of_lt (List.length_pos_iff.2 c)
      rw[if_neg (by omega)]
      simp
      omega
  have J:((A++R).length:Int)≤3000:=by
    rw[hsz]
    split<;>omega
  have E:(A++R).length≤1000000:=by omega
  rw[hTR]
  refine zfr hR hA E _ _ _ _ _ _ _ _ _ _ _ _ _ _ _ _ _ ?_
  have j3:Ev (fun k=>platenlaw06_FloatsExact.j3 k (q:Int) (S (A++R)) true 0 (A.length:Int) true (S v.1) v.2 (S (roundN v.1 v.2 (v.2+(q:Int))).1) (roundN v.1 v.2 (v.2+(q:Int))).2 (S (roundN v.1 v.2 ((q:Int)+1)).1) (roundN v.1 v.2 ((q:Int)+1)).2) true:=by
    refine Ev.step (fun k=>by simp only[platenlaw06_FloatsExact.j3];rfl) ?_
    refine Ev.congr (fun k=>if_pos (by first|rfl|trivial)) ?_
    refine Ev.bind hplaces ?_
    have fin:Ev (fun k=>(if(true:Bool)=true then(if(0:Int)=0 then(if((S (roundN v.1 v.2 (v.2+(q:Int))).1).toList==(S (roundN v.1 v.2 (v.2+(q:Int))).1).toList&&((roundN v.1 v.2 (v.2+(q:Int))).2==(roundN v.1 v.2 (v.2+(q:Int))).2))=true then((zaH.f k).bind fun D=>(some D)) else(some false)) else(some false)) else(some false))) true:=by
      refine Ev.congr (fun k=>if_pos rfl) ?_
      refine Ev.congr (fun k=>if_pos rfl) ?_
      refine Ev.congr (fun k=>if_pos (by simp)) ?_
      exact zeT
    rw[zau,hsz]
    by_cases c:q=0
    · subst c
      refine Ev.congr (fun k=>if_neg (by decide)) ?_
      refine Ev.congr (fun k=>if_pos (by decide)) ?_
      refine Ev.congr (fun k=>if_pos (by rw[if_pos rfl])) ?_
      exact fin
    · refine Ev.congr (fun k=>if_pos (by omega)) ?_
      rw[w64 (x:=(A.length:Int)+1) (by omega) (by omega),w64 (x:=(A.length:Int)+1+(q:Int)) (by omega) (by omega)]
      refine Ev.congr (fun k=>if_pos (by rw[if_neg c])) ?_
      refine Ev.congr (fun k=>if_neg (by omega)) ?_
      exact fin
  refine Ev.step (fun k=>by simp only[platenlaw06_FloatsExact.j2];rfl) ?_
  by_cases c:x=102
  · exact Ev.congr (fun k=>if_pos c) j3
  · refine Ev.congr (fun k=>if_neg c) ?_
    rw[show(x==70)=true from beq_iff_eq.mpr (by omega)]
    exact j3
theorem ziB{v:List UInt8×Int}(h:Near v){q:Nat}(hq:q≤400){x:Int}(hx:x=101∨x=69):Ev (fun k=>platenlaw06_FloatsExact.j0 k (q:Int) (S (scaledL false (bigV x) v (q:Int))) false (S v.1) v.2 false false false false false (-1) (q:Int) x) true:=by
  obtain⟨a,B,y,hT,E,I,hB,hBl,hread⟩:=zdw h hq (bigV x)
  have hround:=zcD h ((q:Int)+1)
  rw[hT]
  refine Ev.step (fun k=>by simp only[platenlaw06_FloatsExact.j0];rfl) ?_
  refine Ev.congr (fun k=>if_neg (by simp)) ?_
  refine Ev.bind hread ?_
  rw[w64 (x:=(q:Int)+1) (by omega) (by omega)]
  refine Ev.bind hround ?_
  obtain⟨m,hm,em⟩: ∃m:UInt8,(m=101∨m=69)∧eMark (bigV x)=[m]:=by cases bigV x;exact⟨101,.inl rfl,rfl⟩;exact⟨69,.inr rfl,rfl⟩
  have hpl:=zb9 [m] (e:=y) (least:=2) (by decide)
  obtain⟨X,hX⟩: ∃X,powL [m] y 2=m::X:=⟨_,rfl⟩
  rw[em,hX]
  rw[hX] at hpl
  have J:(m::X).length≤1101:=by simp at hpl ⊢;omega
  have hXl:X.length+1≤1101:=by simpa using J
  have htoo:(m.toNat:Int)=101∨(m.toNat:Int)=69:=by rcases hm with e|e<;>rw[e];exact .inl rfl;exact .inr rfl
  obtain⟨R,hTR,hR,hsz,hmark⟩: ∃R,ptL false [a] B++m::X=[a]++R∧(R=[]∨ ∃c t,R=c::t∧(c=46∨c=101∨c=69))∧([a]++R).length≤2000∧(0<q→(2:Int)+q<(([a]++R).length:Int)∧bt (S ([a]++R)) (2+(q:Int))=(m.toNat:Int)):=by
    unfold ptL
    by_cases c:B=[]
    · rw[if_pos ⟨c,rfl⟩]
      rw[c] at hBl
      simp at hBl
      exact⟨m::X,rfl,.inr ⟨m,X,rfl,.inr hm⟩,by simp;omega,fun h0=>by omega⟩
    · rw[if_neg (fun e=>c e.1)]
      refine⟨46::B++m::X,by simp,.inr ⟨46,B++m::X,rfl,.inl rfl⟩,by simp;omega,fun h0=>?_⟩
      have e1:[a]++(46::B++m::X)=([a]++46::B)++m::X:=by simp
      have e2:(2:Int)+q=(([a]++46::B).length:Int):=by simp;omega
      refine⟨by simp;omega,?_⟩
      rw[e1,e2]
      exact zch _ m X
  rw[hTR]
  refine zfr hR (D:=[a]) (fun c hc=>by rw[List.mem_singleton] at hc;rw[hc];exact⟨E,I⟩) (by omega) _ _ _ _ _ _ _ _ _ _ _ _ _ _ _ _ _ ?_
  have fin:Ev (fun k=>(if(true:Bool)=true then(if(0:Int)=0 then(if((S (roundN v.1 v.2 ((q:Int)+1)).1).toList==(S (roundN v.1 v.2 ((q:Int)+1)).1).toList&&((roundN v.1 v.2 ((q:Int)+1)).2==(roundN v.1 v.2 ((q:Int)+1)).2))=true then((zaH.f k).bind fun A=>(some A)) else(some false)) else(some false)) else(some false))) true:=by
    refine Ev.congr (fun k=>if_pos rfl) ?_
    refine Ev.congr (fun k=>if_pos rfl) ?_
    refine Ev.congr (fun k=>if_pos (by simp)) ?_
    exact zeT
  have j3:Ev (fun k=>platenlaw06_FloatsExact.j3 k (q:Int) (S ([a]++R)) true 0 (([a]:List UInt8).length:Int) false (S v.1) v.2 (S (roundN v.1 v.2 ((q:Int)+1)).1) (roundN v.1 v.2 ((q:Int)+1)).2 (S (roundN v.1 v.2 ((q:Int)+1)).1) (roundN v.1 v.2 ((q:Int)+1)).2) true:=by
    refine Ev.step (fun k=>by simp only[platenlaw06_FloatsExact.j3];rfl) ?_
    refine Ev.congr (fun k=>if_neg (by simp)) ?_
    refine Ev.congr (fun k=>if_pos rfl) ?_
    by_cases c:0<q
    · obtain⟨h1,h2⟩:=hmark c
      refine Ev.congr (fun k=>if_pos (by omega)) ?_
      rw[w64 (x:=2+(q:Int)) (by omega) (by omega),h2]
      refine Ev.congr (fun k=>if_neg (by rw[zau];omega)) ?_
      refine Ev.congr (fun k=>if_pos (by omega)) ?_
      refine Ev.congr (fun k=>if_pos (by rw[zau];omega)) ?_
      rcases htoo with e|e
      · exact Ev.congr (fun k=>if_pos e) fin
      · refine Ev.congr (fun k=>if_neg (by omega)) ?_
        exact Ev.congr (fun k=>if_pos e) fin
    · refine Ev.congr (fun k=>if_neg (by omega)) ?_
      exact fin
  refine Ev.step (fun k=>by simp only[platenlaw06_FloatsExact.j2];rfl) ?_
  refine Ev.congr (fun k=>if_neg (by omega)) ?_
  rw[show(x==70)=false from beq_eq_false_iff_ne.mpr (by omega)]
  exact j3
theorem ziC(a:Nat)(ha:a<18446744073709551616)(wid prec x:Int): ∃v:Int,(v=101∨v=102∨v=69∨v=70)∧
    zbd.f false false false false false wid prec x (a:Int) (⟨#[101,102,69,70]⟩:ByteArray)=some (false,false,false,false,false,wid,prec,v):=by
  have hz:IntKind.u64.wrap (((⟨#[101,102,69,70]⟩:ByteArray).size:Int))=4:=by decide
  have ht:Int.tmod (a:Int) 4=((a%4:Nat):Int):=rfl
  have h3:=Nat.mod_lt a (show 0<4 by decide)
  unfold zbd.f
  rw[hz,if_neg (by decide),ht]
  generalize a%4=j at h3
  match j,h3 with
  |0,_=>
    refine⟨101,.inl rfl,?_⟩
    rw[show wrap64 ((0:Nat):Int)=0 by unfold wrap64;omega,if_pos (by decide),if_pos (by decide),show bt (⟨#[101,102,69,70]⟩:ByteArray) 0=101 from rfl,show wrap32 101=101 by unfold wrap32;omega]
  |1,_=>
    refine⟨102,.inr (.inl rfl),?_⟩
    rw[show wrap64 ((1:Nat):Int)=1 by unfold wrap64;omega,if_pos (by decide),if_pos (by decide),show bt (⟨#[101,102,69,70]⟩:ByteArray) 1=102 from rfl,show wrap32 102=102 by unfold wrap32;omega]
  |2,_=>
    refine⟨69,.inr (.inr (.inl rfl)),?_⟩
    rw[show wrap64 ((2:Nat):Int)=2 by unfold wrap64;omega,if_pos (by decide),if_pos (by decide),show bt (⟨#[101,102,69,70]⟩:ByteArray) 2=69 from rfl,show wrap32 69=69 by unfold wrap32;omega]
  |3,_=>
    refine⟨70,.inr (.inr (.inr rfl)),?_⟩
    rw[show wrap64 ((3:Nat):Int)=3 by unfold wrap64;omega,if_pos (by decide),if_pos (by decide),show bt (⟨#[101,102,69,70]⟩:ByteArray) 3=70 from rfl,show wrap32 70=70 by unfold wrap32;omega]
theorem zgg(wide:Bool){p:Nat}(hp:p<ii wide){v:Int}(q:Nat)(hq:q≤400):
    (v=101∨v=69→floatS wide p false false false false false (-1) (q:Int) v=(S (scaledL false (bigV v) (exD (fM (ff wide) p) ((fE (ff wide) p:Int)-(ll wide:Int))) (q:Int)),true))∧
    (v=102∨v=70→floatS wide p false false false false false (-1) (q:Int) v=(S (fixedL false (exD (fM (ff wide) p) ((fE (ff wide) p:Int)-(ll wide:Int))) (q:Int)),true)):=by
  have hn:(p / tt wide%2==1)=false:=by
    have:=(zdc wide).2.1
    rw[Nat.div_eq_of_lt (by omega)]
    rfl
  have hs:signL false 0 false false=[]:=by unfold signL;simp
  have hk:six (clamp (q:Int))=(q:Int):=by unfold six clamp;rw[if_neg (by omega)];omega
  refine⟨fun hv=>?_,fun hv=>?_⟩
  · have hc:codeV v=1:=by rcases hv with rfl|rfl<;>rfl
    unfold floatS
    rw[hc,if_neg (by decide),zd0 wide hp,if_pos hp,hn,zfp _ _ _ _ (by decide),hs,List.nil_append]
    unfold restL
    rw[hc,if_pos rfl,Bool.false_and,hk]
  · have hc:codeV v=2:=by rcases hv with rfl|rfl<;>rfl
    unfold floatS
    rw[hc,if_neg (by decide),zd0 wide hp,if_pos hp,hn,zfp _ _ _ _ (by decide),hs,List.nil_append]
    unfold restL
    rw[hc,if_neg (by decide),if_pos rfl,Bool.false_and,hk]
theorem zeV{sz:Option Int}{fin:Int→Option Int}{pa:Int→Int→Option (Bool×Int×Int×Int)}{ex:Nat→Int→Int→Option (ByteArray×Int×Int)}{ba:Option (Bool×Bool×Bool×Bool×Bool×Int×Int×Int)}{vb:Bool→Bool→Bool→Bool→Bool→Int→Int→Int→Option (Bool×Bool×Bool×Bool×Bool×Int×Int×Int)}
    {ff:Nat→Int→Int→Bool→Bool→Bool→Bool→Bool→Int→Int→Int→Option (ByteArray×Bool)} {j0:Nat→Int→ByteArray→Bool→ByteArray→Int→Bool→Bool→Bool→Bool→Bool→Int→Int→Int→Option Bool} {n P M E X q p1 v x:Int} {T D:ByteArray} {sg:Bool}
    (h1:sz=some n) (h2:fin n=some P) (h3:pa P n=some (sg,M,E,X)) (h4:ba=some (false,false,false,false,false,-1,-1,x)) (h5:vb false false false false false (-1) (-1) x=some (false,false,false,false,false,-1,-1,v))
    (f1:Ev (fun k=>ex k M E) (D,p1,0)) (f2:Ev (fun k=>ff k P n false false false false false (-1) q v) (T,true)) (hT:(T.toList==([]:List UInt8))=false) (f3:Ev (fun k=>j0 k q T false D p1 false false false false false (-1) q v) true):
    Ev (fun k=>sz.bind fun K=>((fin K).bind fun U=>((pa U K).bind fun O=>((ex k O.2.1 O.2.2.1).bind fun I=>(ba.bind fun B=>((vb B.1 B.2.1 B.2.2.1 B.2.2.2.1 B.2.2.2.2.1 B.2.2.2.2.2.1 B.2.2.2.2.2.2.1 B.2.2.2.2.2.2.2).bind fun A=>((ff k U K A.1 A.2.1 A.2.2.1 A.2.2.2.1 A.2.2.2.2.1 A.2.2.2.2.2.1 q A.2.2.2.2.2.2.2).bind fun J=>(if J.2=true then(if I.2.2=0 then(j0 k q J.1 (J.1.toList==([]:List UInt8)) I.1 I.2.1 A.1 A.2.1 A.2.2.1 A.2.2.2.1 A.2.2.2.2.1 A.2.2.2.2.2.1 q A.2.2.2.2.2.2.2) else(j0 k q J.1 true I.1 I.2.1 A.1 A.2.1 A.2.2.1 A.2.2.2.1 A.2.2.2.2.1 A.2.2.2.2.2.1 q A.2.2.2.2.2.2.2)) else(j0 k q J.1 true I.1 I.2.1 A.1 A.2.1 A.2.2.1 A.2.2.2.1 A.2.2.2.2.1 A.2.2.2.2.2.1 q A.2.2.2.2.2.2.2))))))))) true:=by
  subst h1 h4
  simp only[Option.bind_some]
  rw[h2]
  simp only[Option.bind_some]
  rw[h3]
  simp only[Option.bind_some]
  refine Ev.bind f1 ?_
  rw[h5]
  simp only[Option.bind_some]
  refine Ev.bind f2 ?_
  refine Ev.congr (fun k=>if_pos (by first|rfl|trivial)) ?_
  refine Ev.congr (fun k=>if_pos (by first|rfl|trivial)) ?_
  show Ev (fun k=>j0 k q T (T.toList==([]:List UInt8)) D p1 false false false false false (-1) q v) true
  rw[hT]
  exact f3
theorem zek{l:List UInt8}(h:l≠[]):((S l).toList==([]:List UInt8))=false:=by
  rw[zbh,L_S]
  exact beq_eq_false_iff_ne.mpr h
theorem FloatsExact: ∀(E:Int) (I:Bool) (a1:Int) (a2:Int),(Lit.int .u64 E).wf=true→(Lit.int .i64 a1).wf=true→(Lit.int .u64 a2).wf=true→ ∃k,platenlaw06_FloatsExact.f k E I a1 a2=some true:=by
  intro a0 wide pr a2 h0 _ h2
  obtain⟨a,rfl,ha⟩:=wf_u64 h0
  obtain⟨b,rfl,hb⟩:=wf_u64 h2
  refine Ev.rounds (g:=fun k=>platenlaw06_FloatsExact.f k (a:Int) wide pr (b:Int)) ?_
  obtain⟨p,hf,hp⟩:=ziz wide a ha
  obtain⟨v,hv,hvb⟩:=ziC b hb (-1) (-1) 101
  have hi:=zdc wide
  have hmm:=(zde wide (Nat.le_of_lt hp)).2
  have hee:=fEl wide (Nat.le_of_lt hp)
  obtain⟨q,hq,D⟩: ∃q:Nat,mx 0 (mn pr 400)=(q:Int)∧q≤400:=by
    rw[zcC,zef]
    exact⟨(max 0 (min pr 400)).toNat,by omega,by omega⟩
  have htx:=zgg wide hp (v:=v) q D
  have hpa:=parts_eq wide p (by omega)
  have hps:partsS wide p=(false,(fM (ff wide) p:Int),(fE (ff wide) p:Int)-(ll wide:Int),0):=by
    unfold partsS
    rw[zd0 wide hp,if_pos hp,Nat.div_eq_of_lt (by omega)]
    rfl
  rw[hps] at hpa
  have f2:=zdg wide (a:=p) (by omega) false false false false false (-1) (q:Int) v
  have f1:=zcj (fM (ff wide) p) ((fE (ff wide) p:Int)-(ll wide:Int)) (by omega)
  rw[zb3 _ (by omega)] at f1
  have hn:=zcm (m:=fM (ff wide) p) (by omega) (e:=(fE (ff wide) p:Int)-(ll wide:Int)) (by omega)
  unfold platenlaw06_FloatsExact.f
  rw[hq]
  by_cases c:v=101∨v=69
  · rw[htx.1 c] at f2
    have f3:=ziB hn D c
    have hT:((S (scaledL false (bigV v) (exD (fM (ff wide) p) ((fE (ff wide) p:Int)-(ll wide:Int))) (q:Int))).toList==([]:List UInt8))=false:=by
      obtain⟨x1,B,y,hT,_⟩:=zdw hn D (bigV v)
      rw[hT]
      refine zek (fun e=>?_)
      have:=(List.append_eq_nil_iff.1 e).1
      unfold ptL at this
      split at this<;>simp at this
    exact zeV (fin:=fun n=>za8.f (a:Int) n) (pa:=fun x n=>zbj.f x n) (ex:=fun k=>zaj.f k) (vb:=fun b0 b1 b2 b3 b4 b5 b6 b7=>zbd.f b0 b1 b2 b3 b4 b5 b6 b7 (b:Int) (⟨#[101,102,69,70]⟩:ByteArray)) (ff:=zaf.f) (j0:=platenlaw06_FloatsExact.j0) (zg2 wide) hf hpa rfl hvb f1 f2 hT f3
  · have c2:v=102∨v=70:=by omega
    rw[htx.2 c2] at f2
    have f3:=ziA hn D c2
    have hT:((S (fixedL false (exD (fM (ff wide) p) ((fE (ff wide) p:Int)-(ll wide:Int))) (q:Int))).toList==([]:List UInt8))=false:=by
      obtain⟨A,B,hT,_,_,hne,_⟩:=zdM hn D
      rw[hT]
      refine zek (fun e=>?_)
      unfold ptL at e
      split at e
      · exact hne e
      · exact hne (List.append_eq_nil_iff.1 e).1
    exact zeV (fin:=fun n=>za8.f (a:Int) n) (pa:=fun x n=>zbj.f x n) (ex:=fun k=>zaj.f k) (vb:=fun b0 b1 b2 b3 b4 b5 b6 b7=>zbd.f b0 b1 b2 b3 b4 b5 b6 b7 (b:Int) (⟨#[101,102,69,70]⟩:ByteArray)) (ff:=zaf.f) (j0:=platenlaw06_FloatsExact.j0) (zg2 wide) hf hpa rfl hvb f1 f2 hT f3
end Go.Proofs.YtecpgdfnamkfdaaGreatDoor.Pure
end
