/- The law FloatsBack: the walks through its functions and its plain law (part 6). Own texts and the kit's printed words for this seat, without what the law does not use: put together by merge.py (of this work). -/
import Derived.Test.YtecpgdfnamkfdaaGreatDoorMFloatsBack5
import Derived.Handy
section
namespace Go.Proofs.YtecpgdfnamkfdaaGreatDoor.Pure
open Go.RowKit Go.Proofs.YtecpgdfnamkfdaaGreatDoorW.PrintWords Go.Proofs.YtecpgdfnamkfdaaGreatDoorW.PrintLast Go.Proofs.YtecpgdfnamkfdaaGreatDoorW.PrintMore Go.Proofs.YtecpgdfnamkfdaaGreatDoor.Fn
set_option linter.unusedVariables false
set_option linter.unusedSimpArgs false
def readR(acc:List UInt8)(p:Int):ByteArray×Int×Bool:=
  (S (decOf (val acc) (p-acc.length)).1,(decOf (val acc) (p-acc.length)).2,acc !=[])
theorem S_ne(l:List UInt8):((S l).toList !=([]:List UInt8))=(l !=[]):=by rw[zby,L_S]
theorem zdk(P:List UInt8)(c:UInt8)(R:List UInt8):bt (S (P++c::R)) (P.length:Int)=(c.toNat:Int):=by
  rw[bt_L (S (P++c::R)) P.length (by rw[zaE,List.length_append,List.length_cons];omega)]
  simp[L_S]
theorem zdS{acc:List UInt8}(ha:AllD acc)(hl:acc.length≤2000){p:Int}(hp: -5000≤p∧p≤5000):
    Ev (fun k=>(zaA.f k (S acc) p).bind fun b=>(if b.2.2=0 then(some (b.1,b.2.1,((S acc).toList !=([]:List UInt8)))) else(some (b.1,b.2.1,false)))) (readR acc p):=by
  have h:=zcv (S acc) p
  rw[zfa ha hl hp] at h
  refine Ev.bind h ?_
  refine Ev.congr (fun k=>if_pos rfl) ?_
  rw[S_ne]
  exact Ev.now _
theorem zfN{s acc:List UInt8}(ha:AllD acc)(hl:acc.length≤2000){p:Int}(hp: -5000≤p∧p≤5000)(dot:Bool):
    Ev (fun k=>zae.l0 k (S s) (S acc) p dot (s.length:Int)) (readR acc p):=by
  refine Ev.step (fun k=>by simp only[zae.l0];rfl) ?_
  refine Ev.congr (fun k=>if_neg (by rw[zaE];omega)) ?_
  exact zdS ha hl hp
theorem ziZ(P:List UInt8)(c:UInt8)(R:List UInt8):(S (P++c::R)).extract P.length (P.length+1)=S [c]:=by
  rw[←S_L ((S (P++c::R)).extract P.length (P.length+1)),zdK,L_S]
  simp
theorem zcF{r:ByteArray×Int×Bool}(dot:Bool)(R:List UInt8): ∀(D P acc:List UInt8) (p:Int),AllD D→(P++(D++R)).length≤1000000000→acc.length≤P.length→ -1000000000≤p→p≤P.length→
    Ev (fun k=>zae.l0 k (S (P++(D++R))) (S (acc++D)) (if dot then p else p+D.length) dot ((P.length+D.length:Nat):Int)) r→
    Ev (fun k=>zae.l0 k (S (P++(D++R))) (S acc) p dot (P.length:Int)) r
  |[],P,acc,p,_,_,_,_,_,h=>by
    simp only[List.append_nil,List.length_nil,Nat.add_zero] at h
    have e:(if dot=true then p else p+((0:Nat):Int))=p:=by split<;>omega
    rw[e] at h
    exact h
  |c::D,P,acc,p,hD,hL,hA,h1,h2,h=>by
    have hc:=hD c (by simp)
    have hlen:(P++(c::D++R)).length=P.length+(D.length+1+R.length):=by simp;omega
    refine Ev.step (fun k=>by simp only[zae.l0];rfl) ?_
    refine Ev.congr (fun k=>if_pos (by rw[zaE,hlen];omega)) ?_
    refine Ev.congr (fun k=>if_pos (by omega)) ?_
    have hb:bt (S (P++(c::D++R))) (P.length:Int)=(c.toNat:Int):=zdk P c (D++R)
    rw[hb]
    refine Ev.congr (fun k=>if_pos (by omega)) ?_
    rw[decide_eq_true (show(c.toNat:Int)≤57 by omega)]
    refine Ev.step (fun k=>by simp only[zae.j1];rfl) ?_
    refine Ev.congr (fun k=>if_pos (by first|rfl|trivial)) ?_
    have hw:wrap64 ((P.length:Int)+1)=((P.length+1:Nat):Int):=by rw[w64 (by omega) (by omega)];rfl
    rw[hw]
    refine Ev.congr (fun k=>if_pos (by omega)) ?_
    refine Ev.congr (fun k=>if_pos (by omega)) ?_
    refine Ev.congr (fun k=>if_pos (by rw[zaE,hlen];omega)) ?_
    have hx:(S (P++(c::D++R))).extract ((P.length:Nat):Int).toNat (((P.length+1:Nat):Int)).toNat=S [c]:=by
      rw[Int.toNat_natCast,Int.toNat_natCast]
      exact ziZ P c (D++R)
    rw[hx]
    have hap:acc.length≤1000000000:=by omega
    refine Ev.congr (fun k=>if_pos (by rw[zaE,zaE,List.length_singleton];omega)) ?_
    rw[zb7]
    have hwp:wrap64 (p+1)=p+1:=w64 (by omega) (by omega)
    rw[hwp]
    have e1:P++(c::D++R)=(P++[c])++(D++R):=by simp
    have e2:((P++[c]).length:Int)=((P.length+1:Nat):Int):=by simp
    have e3:acc++c::D=(acc++[c])++D:=by simp
    have e4:((P.length+(c::D).length:Nat):Int)=(((P++[c]).length+D.length:Nat):Int):=by simp;omega
    have ih:=zcF (r:=r) dot R D (P++[c]) (acc++[c]) (if dot then p else p+1) (fun x hx=>hD x (by simp[hx])) (by rw[←e1];exact hL) (by simp;omega) (by split<;>omega) (by rw[e2];split<;>omega)
    rw[e1,e3,e4] at h
    rw[e1,←e2]
    have e5:(if dot=true then p else p+((c::D).length:Int))=(if dot=true then(if dot=true then p else p+1) else(if dot=true then p else p+1)+(D.length:Int)):=by
      cases dot<;>simp<;>omega
    rw[e5] at h
    have A:=ih h
    cases dot with
    |true=>exact Ev.congr (fun k=>if_pos rfl) A
    |false=>exact Ev.congr (fun k=>if_neg (by simp)) A
theorem zhZ{r:ByteArray×Int×Bool}(P R acc:List UInt8)(p:Int)(hL:(P++46::R).length≤1000000000)
    (h:Ev (fun k=>zae.l0 k (S (P++46::R)) (S acc) p true ((P.length+1:Nat):Int)) r):
    Ev (fun k=>zae.l0 k (S (P++46::R)) (S acc) p false (P.length:Int)) r:=by
  have hlen:(P++46::R).length=P.length+(R.length+1):=by simp
  refine Ev.step (fun k=>by simp only[zae.l0];rfl) ?_
  refine Ev.congr (fun k=>if_pos (by rw[zaE,hlen];omega)) ?_
  refine Ev.congr (fun k=>if_pos (by omega)) ?_
  rw[zdk]
  refine Ev.congr (fun k=>if_neg (by decide)) ?_
  refine Ev.step (fun k=>by simp only[zae.j1];rfl) ?_
  refine Ev.congr (fun k=>if_neg (by simp)) ?_
  refine Ev.congr (fun k=>if_pos (by first|rfl|trivial)) ?_
  refine Ev.step (fun k=>by simp only[zae.j2];rfl) ?_
  refine Ev.congr (fun k=>if_pos (by first|rfl|trivial)) ?_
  have hw:wrap64 ((P.length:Int)+1)=((P.length+1:Nat):Int):=by rw[w64 (by omega) (by omega)];rfl
  rw[hw]
  exact h
theorem zjD(P:List UInt8)(c:UInt8)(R:List UInt8):rd (toI (P++c::R)) (P.length:Int)=(c.toNat:Int):=by
  rw[←zc5,zel]
  exact zdk P c R
theorem zfc{P acc:List UInt8}{m g:UInt8}{X:List UInt8}{p:Int}(ha:AllD acc)(hl:acc.length≤2000)(hP:P.length≤1000000)(hX:AllD X)(h4:X.length≤4)
    (hp: -5000≤p+(if g=45 then-(val X:Int) else(val X:Int))∧p+(if g=45 then-(val X:Int) else(val X:Int))≤5000): ∀(D pre:List UInt8),X=pre++D→
    Ev (fun k=>zae.l1 k (S (P++m::g::X)) (S acc) p (P.length:Int) (val pre:Int) (toI X) (X.length:Int) (pre.length:Int)) (readR acc (p+(if g=45 then-(val X:Int) else(val X:Int))))
  |[],pre,e=>by
    rw[List.append_nil] at e
    subst e
    have hv:=zcf hX
    have A:val X<10000:=Nat.lt_of_lt_of_le hv (by have:=Nat.pow_le_pow_right (show 0<10 by decide) h4;omega)
    refine Ev.step (fun k=>by simp only[zae.l1];rfl) ?_
    have hw:wrap64 ((P.length:Int)+1)=((P.length+1:Nat):Int):=by rw[w64 (by omega) (by omega)];rfl
    rw[hw]
    refine Ev.congr (fun k=>if_neg (by omega)) ?_
    refine Ev.congr (fun k=>if_pos (by omega)) ?_
    refine Ev.congr (fun k=>if_pos (by rw[zaE];simp;omega)) ?_
    have hb:bt (S (P++m::g::X)) ((P.length+1:Nat):Int)=(g.toNat:Int):=by
      have:=zdk (P++[m]) g X
      rw[show(P++[m])++g::X=P++m::g::X by simp,show(P++[m]).length=P.length+1 by simp] at this
      exact this
    rw[hb]
    by_cases c:g=45
    · rw[if_pos c] at hp ⊢
      refine Ev.congr (fun k=>if_pos (by rw[c];rfl)) ?_
      rw[w64 (x:= -(val X:Int)) (by omega) (by omega),w64 (by omega) (by omega)]
      exact zdS ha hl hp
    · rw[if_neg c] at hp ⊢
      refine Ev.congr (fun k=>if_neg (fun h=>c (UInt8.toNat_inj.1 (by have:(45:UInt8).toNat=45:=rfl;omega)))) ?_
      rw[w64 (by omega) (by omega)]
      exact zdS ha hl hp
  |c::D,pre,e=>by
    have hc:=hX c (by rw[e];simp)
    have hpre:AllD pre:=fun x hx=>hX x (by rw[e];simp[hx])
    have hlen:X.length=pre.length+(D.length+1):=by rw[e];simp
    have hv:=zcf hpre
    have A:val pre<1000:=Nat.lt_of_lt_of_le hv (by have:=Nat.pow_le_pow_right (show 0<10 by decide) (show pre.length≤3 by omega);omega)
    refine Ev.step (fun k=>by simp only[zae.l1];rfl) ?_
    refine Ev.congr (fun k=>if_pos (by omega)) ?_
    refine Ev.congr (fun k=>if_pos (by omega)) ?_
    refine Ev.congr (fun k=>if_pos (by rw[zbQ];omega)) ?_
    have hr:rd (toI X) (pre.length:Int)=(c.toNat:Int):=by rw[e];exact zjD pre c D
    rw[hr]
    refine Ev.congr (fun k=>if_neg (by omega)) ?_
    refine Ev.congr (fun k=>if_neg (by omega)) ?_
    refine Ev.congr (fun k=>if_neg (by omega)) ?_
    have hn:wrap64 (wrap64 (10*(val pre:Int))+((c.toNat:Int)-48)%256)=((val (pre++[c]):Nat):Int):=by
      rw[zbI,w64 (x:=10*(val pre:Int)) (by omega) (by omega),w64 (by omega) (by omega)]
      unfold dig
      omega
    have hi:wrap64 ((pre.length:Int)+1)=((pre++[c]).length:Int):=by rw[w64 (by omega) (by omega)];simp
    rw[hn,hi]
    exact zfc ha hl hP hX h4 hp D (pre++[c]) (by rw[e];simp)
theorem zh0{P acc:List UInt8}{m g:UInt8}{X:List UInt8}{p:Int}(hm:m=101∨m=69)(hg:g=43∨g=45)(ha:AllD acc)(hl:acc.length≤2000)(hP:P.length≤1000000)(hX:AllD X)(h2:2≤X.length)(h4:X.length≤4)(dot:Bool)
    (hp: -5000≤p+(if g=45 then-(val X:Int) else(val X:Int))∧p+(if g=45 then-(val X:Int) else(val X:Int))≤5000):
    Ev (fun k=>zae.l0 k (S (P++m::g::X)) (S acc) p dot (P.length:Int)) (readR acc (p+(if g=45 then-(val X:Int) else(val X:Int)))):=by
  have hlen:(P++m::g::X).length=P.length+(X.length+1+1):=by simp
  have A:(m.toNat:Int)=101∨(m.toNat:Int)=69:=by rcases hm with rfl|rfl;exact .inl rfl;exact .inr rfl
  have B:wrap64 ((P.length:Int)+1)=((P.length+1:Nat):Int):=by rw[w64 (by omega) (by omega)];rfl
  have D:wrap64 ((P.length:Int)+2)=((P.length+2:Nat):Int):=by rw[w64 (by omega) (by omega)];rfl
  have E:wrap64 ((P.length:Int)+4)=((P.length+4:Nat):Int):=by rw[w64 (by omega) (by omega)];rfl
  refine Ev.step (fun k=>by simp only[zae.l0];rfl) ?_
  refine Ev.congr (fun k=>if_pos (by rw[zaE,hlen];omega)) ?_
  refine Ev.congr (fun k=>if_pos (by omega)) ?_
  rw[zdk]
  refine Ev.congr (fun k=>if_pos (by omega)) ?_
  rw[decide_eq_false (show¬(m.toNat:Int)≤57 by omega)]
  refine Ev.step (fun k=>by simp only[zae.j1];rfl) ?_
  refine Ev.congr (fun k=>if_neg (by simp)) ?_
  refine Ev.congr (fun k=>if_neg (by omega)) ?_
  refine Ev.step (fun k=>by simp only[zae.j2];rfl) ?_
  refine Ev.congr (fun k=>if_neg (by simp)) ?_
  have j4:Ev (fun k=>zae.j4 k (S (P++m::g::X)) (S acc) p (P.length:Int) 0 false) (readR acc (p+(if g=45 then-(val X:Int) else(val X:Int)))):=by
    refine Ev.step (fun k=>by simp only[zae.j4];rfl) ?_
    refine Ev.congr (fun k=>if_neg (by simp)) ?_
    rw[D]
    refine Ev.congr (fun k=>if_pos (by omega)) ?_
    refine Ev.congr (fun k=>if_pos (by rw[zaE,hlen];omega)) ?_
    have hx:(S (P++m::g::X)).extract (((P.length+2:Nat):Int)).toNat (S (P++m::g::X)).size=S X:=by
      rw[Int.toNat_natCast,zeM]
      congr 1
      rw[show P++m::g::X=(P++[m,g])++X by simp]
      exact List.drop_left' (by simp)
    rw[hx]
    refine Ev.congr (fun k=>if_pos (by rw[zaE];omega)) ?_
    simp only[Option.bind_some]
    rw[zc5,zbQ]
    exact zfc ha hl hP hX h4 hp X [] rfl
  have j3:Ev (fun k=>zae.j3 k (S (P++m::g::X)) (S acc) p (P.length:Int) true) (readR acc (p+(if g=45 then-(val X:Int) else(val X:Int)))):=by
    refine Ev.step (fun k=>by simp only[zae.j3];rfl) ?_
    refine Ev.congr (fun k=>if_pos (by first|rfl|trivial)) ?_
    rw[E,B]
    refine Ev.congr (fun k=>if_neg (by rw[zaE,hlen];omega)) ?_
    refine Ev.congr (fun k=>if_pos (by omega)) ?_
    refine Ev.congr (fun k=>if_pos (by rw[zaE,hlen];omega)) ?_
    have hb:bt (S (P++m::g::X)) ((P.length+1:Nat):Int)=(g.toNat:Int):=by
      have:=zdk (P++[m]) g X
      rw[show(P++[m])++g::X=P++m::g::X by simp,show(P++[m]).length=P.length+1 by simp] at this
      exact this
    rw[hb]
    rcases hg with e|e
    · refine Ev.congr (fun k=>if_pos (by rw[e];rfl)) ?_
      exact j4
    · refine Ev.congr (fun k=>if_neg (by rw[e];decide)) ?_
      rw[show((g.toNat:Int)!=45)=false by rw[e];rfl]
      exact j4
  rcases A with e|e
  · exact Ev.congr (fun k=>if_pos e) j3
  · refine Ev.congr (fun k=>if_neg (by omega)) ?_
    rw[e]
    exact j3
theorem zeR{n:Nat}(h:n<10):dig (dch n)=n:=by
  unfold dig dch
  rw[if_pos h,UInt8.toNat_ofNat']
  omega
theorem zhm: ∀k n,n<10^(k+1)→val (bF 10 k n)=n
  |0,n,h=>by
    show val ([]++[dch (n%10)])=n
    rw[zbI,zbl,zeR (Nat.mod_lt _ (by decide))]
    simp at h
    omega
  |k+1,n,h=>by
    unfold bF
    split
    · show val ([]++[dch (n%10)])=n
      rw[zbI,zbl,zeR (Nat.mod_lt _ (by decide))]
      omega
    · rw[zbI,zhm k (n / 10) (by rw[Nat.pow_succ] at h;omega),zeR (Nat.mod_lt _ (by decide))]
      omega
theorem zjE{n:Nat}(h:n<10000):val (bT 10 n)=n:=zhm 63 n (Nat.lt_of_lt_of_le h (by decide))
theorem zeS(n:Nat)(l:List UInt8):val (zsL n++l)=val l:=by
  rw[val_append]
  unfold zsL
  rw[zcm]
  omega
theorem zh1{P acc:List UInt8}{p e:Int}(big:Bool)(ha:AllD acc)(hl:acc.length≤2000)(hP:P.length≤1000000)(he: -5000≤e∧e≤5000)(hp: -5000≤p+e∧p+e≤5000)(dot:Bool):
    Ev (fun k=>zae.l0 k (S (P++powL (eMark big) e 2)) (S acc) p dot (P.length:Int)) (readR acc (p+e)):=by
  obtain⟨m,hm,em⟩: ∃m:UInt8,(m=101∨m=69)∧eMark big=[m]:=by cases big;exact⟨101,.inl rfl,rfl⟩;exact⟨69,.inr rfl,rfl⟩
  obtain⟨g,hg,eg,A⟩: ∃g:UInt8,(g=43∨g=45)∧(if e<0 then [45] else [43])=[g]∧(g=45↔e<0):=by
    by_cases c:e<0
    · exact⟨45,.inr rfl,by rw[if_pos c],⟨fun _=>c,fun _=>rfl⟩⟩
    · exact⟨43,.inl rfl,by rw[if_neg c],⟨fun h=>absurd h (by decide),fun h=>absurd h c⟩⟩
  have hn:e.natAbs<10000:=by omega
  have B:(bT 10 e.natAbs).length≤4:=zed 10 63 e.natAbs 3 (by omega)
  have hX:AllD (zsL (2-((bT 10 e.natAbs).length:Int)).toNat++bT 10 e.natAbs):=(zdj _).append (zhl 63 _)
  have hv:val (zsL (2-((bT 10 e.natAbs).length:Int)).toNat++bT 10 e.natAbs)=e.natAbs:=by rw[zeS,zjE hn]
  have hlen:(zsL (2-((bT 10 e.natAbs).length:Int)).toNat++bT 10 e.natAbs).length=(2-((bT 10 e.natAbs).length:Int)).toNat+(bT 10 e.natAbs).length:=by rw[List.length_append,zbu]
  have hpw:powL (eMark big) e 2=m::g::(zsL (2-((bT 10 e.natAbs).length:Int)).toNat++bT 10 e.natAbs):=by
    unfold powL
    rw[em,eg]
    rfl
  have hval:(if g=45 then-((val (zsL (2-((bT 10 e.natAbs).length:Int)).toNat++bT 10 e.natAbs):Nat):Int) else((val (zsL (2-((bT 10 e.natAbs).length:Int)).toNat++bT 10 e.natAbs):Nat):Int))=e:=by
    rw[hv]
    by_cases c:e<0
    · rw[if_pos (A.2 c)];omega
    · rw[if_neg (fun h=>c (A.1 h))];omega
  have h:=zh0 (P:=P) (acc:=acc) (p:=p) hm hg ha hl hP hX (by rw[hlen];omega) (by rw[hlen];omega) dot (by rw[hval];exact hp)
  rw[hval,←hpw] at h
  exact h
theorem zeT{r:ByteArray×Int×Bool}{A B E:List UInt8}(dot:Bool)(hA:AllD A)(hB:AllD B)(hl:(ptL dot A B++E).length≤1000000)
    (h: ∀fl:Bool,Ev (fun k=>zae.l0 k (S (ptL dot A B++E)) (S (A++B)) (A.length:Int) fl ((ptL dot A B).length:Int)) r):
    Ev (fun k=>zae.f k (S (ptL dot A B++E))) r:=by
  unfold zae.f
  show Ev (fun k=>zae.l0 k (S (ptL dot A B++E)) (S []) 0 false ((([]:List UInt8).length:Nat):Int)) r
  unfold ptL at h hl ⊢
  by_cases c:B=[]∧dot=false
  · rw[if_pos c] at h hl ⊢
    have:=h false
    rw[c.1,List.append_nil] at this
    refine zcF (r:=r) false E A [] [] 0 hA (by simp at hl ⊢;omega) (by simp) (by omega) (by simp) ?_
    simpa using this
  · rw[if_neg c] at h hl ⊢
    have h1:=h true
    have e0:(A++46::B)++E=[]++(A++(46::(B++E))):=by simp
    rw[e0] at h1 hl ⊢
    refine zcF (r:=r) false (46::(B++E)) A [] [] 0 hA (by simp at hl ⊢;omega) (by simp) (by omega) (by simp) ?_
    have e1:([]:List UInt8)++(A++46::(B++E))=A++46::(B++E):=rfl
    rw[e1] at h1 hl ⊢
    have e2:((([]:List UInt8).length+A.length:Nat):Int)=(A.length:Int):=by simp
    rw[e2]
    have e3:(if false=true then(0:Int) else 0+(A.length:Int))=(A.length:Int):=by simp
    rw[e3]
    show Ev (fun k=>zae.l0 k (S (A++46::(B++E))) (S A) (A.length:Int) false (A.length:Int)) r
    refine zhZ A (B++E) A (A.length:Int) (by omega) ?_
    have e4:A++46::(B++E)=(A++[46])++(B++E):=by simp
    have e5:((A.length+1:Nat):Int)=((A++[46]).length:Int):=by simp
    rw[e4] at h1 hl ⊢
    rw[e5]
    refine zcF (r:=r) true E B (A++[46]) A (A.length:Int) hB (by omega) (by simp) (by omega) (by simp;omega) ?_
    have e6:((A++46::B).length:Int)=(((A++[46]).length+B.length:Nat):Int):=by simp;omega
    rw[e6] at h1
    exact h1
theorem zh2{l:List UInt8}(h:AllD l)(hn:l≠[])(hl:l.length≤2000){e:Int}(he: -5000≤e∧e≤4999)(dot big:Bool):
    Ev (fun k=>zae.f k (S (sciL dot big l e))) (readR l (1+e)):=by
  have hfit:=(zeQ (l:=l) h.asc (by omega) dot big e).2
  have h1:(l.take 1).length=1:=by
    rw[List.length_take]
    have:=List.length_pos_iff.2 hn
    omega
  have hp:=zcb dot (l.take 1) (l.drop 1)
  unfold sciL at hfit ⊢
  refine zeT dot (h.take 1) (h.drop 1) (by omega) (fun fl=>?_)
  rw[List.take_append_drop,h1]
  exact zh1 big h hl (by rw[List.length_append] at hfit;omega) (by omega) (by omega) fl
theorem zd6{l:List UInt8}(h:AllD l)(hl:l.length≤900){p:Int}(hp: -900≤p∧p≤900)(dot:Bool):
    ∃y,y≠[]∧Ev (fun k=>zae.f k (S (aroundL dot l p))) (S (decOf (val l) (p-l.length)).1,(decOf (val l) (p-l.length)).2,y !=([]:List UInt8)):=by
  have hfit:=(zdB (l:=l) h.asc (by omega) dot (p:=p) (by omega)).2
  unfold aroundL at hfit ⊢
  by_cases c:p≤0
  · rw[if_pos c] at hfit ⊢
    refine⟨[48]++(zsL (-p).toNat++l),by simp,?_⟩
    have hB:AllD (zsL (-p).toNat++l):=(zdj _).append h
    have hA:AllD [48]:=zdj 1
    have e0:ptL dot [48] (zsL (-p).toNat++l)=ptL dot [48] (zsL (-p).toNat++l)++[]:=by rw[List.append_nil]
    have hr:(S (decOf (val l) (p-l.length)).1,(decOf (val l) (p-l.length)).2,([48]++(zsL (-p).toNat++l))!=([]:List UInt8))=readR ([48]++(zsL (-p).toNat++l)) 1:=by
      unfold readR
      have ev:val ([48]++(zsL (-p).toNat++l))=val l:=by rw[show([48]:List UInt8)=zsL 1 from rfl,zeS,zeS]
      have el:(1:Int)-(([48]++(zsL (-p).toNat++l)).length:Int)=p-l.length:=by
        rw[List.length_append,List.length_append,zbu,List.length_singleton]
        omega
      rw[ev,el]
    rw[hr,e0]
    refine zeT dot hA hB (by rw[List.append_nil];omega) (fun fl=>?_)
    have:=zfN (s:=ptL dot [48] (zsL (-p).toNat++l)++[]) (acc:=[48]++(zsL (-p).toNat++l)) (hA.append hB) (by rw[List.length_append,List.length_append,zbu,List.length_singleton];omega) (p:=1) (by omega) fl
    rw[List.length_append,List.length_nil,Nat.add_zero] at this
    exact this
  · rw[if_neg c] at hfit ⊢
    have hf:=zbA l p
    have hF:AllD (fillL l p):=h.append (zdj _)
    have h1:((fillL l p).take p.toNat).length=p.toNat:=by rw[List.length_take];omega
    refine⟨fillL l p,fun e=>by rw[e] at hf;simp at hf;omega,?_⟩
    have hr:(S (decOf (val l) (p-l.length)).1,(decOf (val l) (p-l.length)).2,(fillL l p)!=([]:List UInt8))=readR (fillL l p) p:=by
      unfold readR
      have ev:val (fillL l p)=val l*10^(p-(l.length:Int)).toNat:=by
        unfold fillL
        rw[val_append,zbu]
        unfold zsL
        rw[zcm]
        omega
      have el:p-((fillL l p).length:Int)=(p-(l.length:Int))-((p-(l.length:Int)).toNat:Int):=by omega
      rw[ev,el,zcg]
    rw[hr]
    have e0:ptL dot ((fillL l p).take p.toNat) ((fillL l p).drop p.toNat)=ptL dot ((fillL l p).take p.toNat) ((fillL l p).drop p.toNat)++[]:=by rw[List.append_nil]
    rw[e0]
    refine zeT dot (hF.take _) (hF.drop _) (by rw[List.append_nil];omega) (fun fl=>?_)
    rw[List.take_append_drop,h1]
    have:=zfN (s:=ptL dot ((fillL l p).take p.toNat) ((fillL l p).drop p.toNat)++[]) (acc:=fillL l p) hF (by omega) (p:=p) (by omega) fl
    rw[List.length_append,List.length_nil,Nat.add_zero] at this
    rw[show((p.toNat:Nat):Int)=p by omega]
    exact this
theorem zh3{d:List UInt8×Int}(h:InForm d.1 d.2)(hl:d.1.length≤900)(hp: -4000≤d.2∧d.2≤1500)(big:Bool):
    Ev (fun k=>zae.f k (S (genL false big d 6 21))) (S d.1,d.2,true):=by
  obtain⟨l,p⟩:=d
  unfold genL firstL
  dsimp only at h hl hp ⊢
  rw[if_neg (show¬(false=true) by simp)]
  by_cases c:l=[]
  · rw[if_pos c,if_pos c,if_neg (by decide)]
    obtain⟨y,hy,he⟩:=zd6 (l:=[48]) (zdj 1) (by simp) (p:=0+1) (by omega) false
    have e2:p=0:=h.2.2.2 c
    have e1:decOf (val [48]) ((0:Int)+1-(([48]:List UInt8).length:Int))=([],0):=zb9 _
    rw[e1,bne_iff_ne.mpr hy] at he
    subst c e2
    exact he
  · rw[if_neg c,if_neg c]
    have hv:=zcI h
    by_cases c2:p-1< -4∨p-1≥21
    · rw[if_pos c2]
      have:=zh2 h.1 c (by omega) (e:=p-1) (by omega) false big
      unfold readR at this
      rw[show 1+(p-1)-(l.length:Int)=p-l.length by omega,hv,bne_iff_ne.mpr c] at this
      exact this
    · rw[if_neg c2]
      obtain⟨y,hy,he⟩:=zd6 h.1 hl (p:=p-1+1) (by omega) false
      rw[show p-1+1-(l.length:Int)=p-l.length by omega,hv,bne_iff_ne.mpr hy] at he
      exact he
theorem zi0(wide:Bool)(a:Nat)(ha:a<18446744073709551616): ∃p:Nat,za2.f (a:Int) (szB wide)=some (p:Int)∧p<ii wide:=by
  obtain⟨j,hj,ht,hw⟩:=zfy wide
  have htt:=zev wide
  unfold za2.f
  rw[hw,zdt _ hj,zcY _ _ (by omega) ha,←ht,if_pos (by omega)]
  have hb:=Nat.mod_lt a htt.1
  generalize a%tt wide=q at*
  cases wide
  · have A:q<2147483648:=hb
    rw[if_pos (show szB false=32 from rfl)]
    show∃p:Nat,_∧p<2139095040
    by_cases c:(q:Int)≥2139095040
    · refine⟨q-2139095040,?_,by omega⟩
      rw[if_pos c,show((q:Int)-2139095040)=((q-2139095040:Nat):Int) by omega,u64N _ (by omega)]
    · exact⟨q,by rw[if_neg c],by omega⟩
  · have A:q<9223372036854775808:=hb
    rw[if_neg (show¬szB true=32 by decide)]
    show∃p:Nat,_∧p<9218868437227405312
    by_cases c:(q:Int)≥9218868437227405312
    · refine⟨q-9218868437227405312,?_,by omega⟩
      rw[if_pos c,show((q:Int)-9218868437227405312)=((q-9218868437227405312:Nat):Int) by omega,u64N _ (by omega)]
    · exact⟨q,by rw[if_neg c],by omega⟩
theorem zjP(a:Nat)(ha:a<18446744073709551616)(x:Int): ∃v:Int,(v=118∨v=103∨v=71)∧
    za6.f false false false false false (-1) (-1) x (a:Int) (⟨#[118,103,71]⟩:ByteArray)=some (false,false,false,false,false,-1,-1,v):=by
  have hz:IntKind.u64.wrap (((⟨#[118,103,71]⟩:ByteArray).size:Int))=3:=by decide
  have ht:Int.tmod (a:Int) 3=((a%3:Nat):Int):=rfl
  have h3:=Nat.mod_lt a (show 0<3 by decide)
  unfold za6.f
  rw[hz,if_neg (by decide),ht]
  generalize a%3=j at h3
  match j,h3 with
  |0,_=>
    refine⟨118,.inl rfl,?_⟩
    rw[show wrap64 ((0:Nat):Int)=0 by unfold wrap64;omega,if_pos (by decide),if_pos (by decide),show bt (⟨#[118,103,71]⟩:ByteArray) 0=118 from rfl,show wrap32 118=118 by unfold wrap32;omega]
  |1,_=>
    refine⟨103,.inr (.inl rfl),?_⟩
    rw[show wrap64 ((1:Nat):Int)=1 by unfold wrap64;omega,if_pos (by decide),if_pos (by decide),show bt (⟨#[118,103,71]⟩:ByteArray) 1=103 from rfl,show wrap32 103=103 by unfold wrap32;omega]
  |2,_=>
    refine⟨71,.inr (.inr rfl),?_⟩
    rw[show wrap64 ((2:Nat):Int)=2 by unfold wrap64;omega,if_pos (by decide),if_pos (by decide),show bt (⟨#[118,103,71]⟩:ByteArray) 2=71 from rfl,show wrap32 71=71 by unfold wrap32;omega]
end Go.Proofs.YtecpgdfnamkfdaaGreatDoor.Pure
end
section
namespace Go.Proofs.YtecpgdfnamkfdaaGreatDoor.Fn
open Go.RowKit Go.Proofs.YtecpgdfnamkfdaaGreatDoorW.PrintWords Go.Proofs.YtecpgdfnamkfdaaGreatDoorW.PrintLast Go.Proofs.YtecpgdfnamkfdaaGreatDoorW.PrintMore
set_option linter.unusedVariables false
set_option linter.unusedSimpArgs false
set_option maxHeartbeats 8000000
set_option maxRecDepth 100000
section
attribute [local go_sem] fnW_0 fnW_1 fnW_2 fnW_3 fnW_4 fnW_5 fnW_guard fnW_eql zaK zaL zaQ zaR
attribute [local go_sem high] eqA42
def platenlaw06_FloatsBack.f(k:Nat)(U:Int)(X:Bool)(a1:Int):Option (Bool):=(zba.f X).bind fun E=>((za2.f U E).bind fun J=>((zay.f 118).bind fun A=>((za6.f A.1 A.2.1 A.2.2.1 A.2.2.2.1 A.2.2.2.2.1 A.2.2.2.2.2.1 A.2.2.2.2.2.2.1 A.2.2.2.2.2.2.2 a1 (⟨#[118,103,71]⟩:ByteArray)).bind fun B=>((zah.f k J E B.1 B.2.1 B.2.2.1 B.2.2.2.1 B.2.2.2.2.1 B.2.2.2.2.2.1 B.2.2.2.2.2.2.1 B.2.2.2.2.2.2.2).bind fun K=>((zae.f k K.1).bind fun D=>((zbt.f k D.1 D.2.1 E).bind fun M=>((zav.f k J E).bind fun I=>(if K.2=true then(if D.2.2=true then(if M.2=0 then(if I.2.2=0 then(if M.1=J then(if(D.1.toList==I.1.toList&&(D.2.1==I.2.1))=true then((zbi.f k).bind fun O=>(some O)) else(some false)) else(some false)) else(some false)) else(some false)) else(some false)) else(some false)))))))))
theorem platenlaw06_FloatsBack.calls(k:Nat)(D:Int)(E:Bool)(a1:Int)(r:Bool)(w:World)(h:platenlaw06_FloatsBack.f k D E a1=some r):
  Calls Tryz.prog 13 #[.agg #[.int .u64 D,.bool E],.int .u64 a1] w fun e w'=>e= .returned (.bool r)∧Below w.heap.size w w':=by
 have fg:=Tryz.underlying24
 have fh:=Tryz.underlying42
 have HB:=zaa.mk (Below.refl w.heap.size w)
 have H:((zba.f E).bind fun I=>((za2.f D I).bind fun U=>((zay.f 118).bind fun aE=>((za6.f aE.1 aE.2.1 aE.2.2.1 aE.2.2.2.1 aE.2.2.2.2.1 aE.2.2.2.2.2.1 aE.2.2.2.2.2.2.1 aE.2.2.2.2.2.2.2 a1 (⟨#[118,103,71]⟩:ByteArray)).bind fun aF=>((zah.f k U I aF.1 aF.2.1 aF.2.2.1 aF.2.2.2.1 aF.2.2.2.2.1 aF.2.2.2.2.2.1 aF.2.2.2.2.2.2.1 aF.2.2.2.2.2.2.2).bind fun a4=>((zae.f k a4.1).bind fun aR=>((zbt.f k aR.1 aR.2.1 I).bind fun a5=>((zav.f k U I).bind fun aZ=>(if a4.2=true then(if aR.2.2=true then(if a5.2=0 then(if aZ.2.2=0 then(if a5.1=U then(if(aR.1.toList==aZ.1.toList&&(aR.2.1==aZ.2.1))=true then((zbi.f k).bind fun a2=>(some a2)) else(some false)) else(some false)) else(some false)) else(some false)) else(some false)) else(some false))))))))))=some r:=h
 clear h
 replace H:=bs H
 obtain⟨I,A3,H⟩:=H
 replace H:=bs H
 obtain⟨U,A4,H⟩:=H
 replace H:=bs H
 obtain⟨⟨ae,af,ag,ah,ai,aj,ak,al⟩,A5,H⟩:=H
 dsimp only at H
 replace H:=bs H
 obtain⟨⟨am,an,ao,ap,ar,au,av,aw⟩,A6,H⟩:=H
 dsimp only at H
 replace H:=bs H
 obtain⟨⟨ax,bc⟩,A7,H⟩:=H
 dsimp only at H
 replace H:=bs H
 obtain⟨⟨J,K,a6⟩,A8,H⟩:=H
 dsimp only at H
 replace H:=bs H
 obtain⟨⟨aI,aJ⟩,A9,H⟩:=H
 dsimp only at H
 replace H:=bs H
 obtain⟨⟨aC,aD,aK⟩,a3,H⟩:=H
 dsimp only at H
 by_cases ba:bc=true
 ·subst ba
  replace H:=hT H
  by_cases bb:a6=true
  ·subst bb
   replace H:=hT H
   by_cases a7:aJ=0
   ·replace H:=hE H a7
    obtain⟨bd,be⟩:=eT a7
    clear a7
    by_cases a8:aK=0
    ·replace H:=hE H a8
     obtain⟨bf,bg⟩:=eT a8
     clear a8
     by_cases a9:aI=U
     ·replace H:=hE H a9
      obtain⟨bh,bi⟩:=eT a9
      clear a9
      by_cases aY:(J.toList==aC.toList&&(K==aD))=true
      ·replace H:=hE H aY
       have bj:(J.toList==aC.toList&&(K==aD))=true:=aY
       (try(have bl:decide (J.toList=aC.toList&&(K==aD))=true:=by simpa using aY))
       (try(have bm:(J.toList==aC.toList&&(K==aD))=true:=by simpa using aY))
       clear aY
       replace H:=bs H
       obtain⟨a2,ew,H⟩:=H
       obtain rfl:=Option.some.inj H
       go_enter Tryz.func13,Tryz.ntmps13
       go_wp2_with (first|((with_reducible refine zak (N:=2) rfl ?_);refine zaj rfl (N:=2) rfl (cs:=#[.int .u64 D,.bool E]) (t:=24) gz ?_;intro B hg aS hbox hb;have aL:=gN bz hg;have aM:=gN bz hg;have A:=zaa.mk hbox;replace HB:=bN bz hb;clear hb hbox hg;obtain⟨cO,cP,cQ,cR⟩:=cz2 (W:=aS) A)|((with_reducible refine zac (f:=21) rfl ?_);refine zal (some 17) rfl rfl Tryz.func21 (by kernel_rfl) rfl #[.bool E] rfl lz ?_;(with_reducible refine(zba.calls E I _ A3.out).mono ?_);rintro e w' ⟨rfl,⟨nd,rfl⟩⟩;refine⟨_,rfl,?_⟩;(try(rw[zbe aS];generalize ad:World.drewN aS _=aS;have az:zaa (aS.heap[B]? =some (.cells #[.int .u64 D,.bool E] 24 (0,0))):=⟨by rw[←ad];exact bk⟩;have aA:zaa (Below w.heap.size w aS):=⟨by rw[←ad];exact bz⟩;clear A HB ad;have A:=az;have HB:=aA;clear az aA;obtain⟨bn,bo,bp,bq⟩:=cz2 (W:=aS) A)))|((with_reducible refine zac (f:=28) rfl ?_);refine zal (some 21) rfl rfl Tryz.func28 (by kernel_rfl) rfl #[.int .u64 D,.int .i64 I] rfl lz ?_;(with_reducible refine(za2.calls D I U _ A4.out).mono ?_);rintro e w' ⟨rfl,⟨nd,rfl⟩⟩;refine⟨_,rfl,?_⟩;(try(rw[zbe aS];generalize ad:World.drewN aS _=aS;have az:zaa (aS.heap[B]? =some (.cells #[.int .u64 D,.bool E] 24 (0,0))):=⟨by rw[←ad];exact bk⟩;have aA:zaa (Below w.heap.size w aS):=⟨by rw[←ad];exact bz⟩;clear A HB ad;have A:=az;have HB:=aA;clear az aA;obtain⟨br,bu,bv,bw⟩:=cz2 (W:=aS) A)))|((with_reducible refine zac (f:=30) rfl ?_);refine zal (some 25) rfl rfl Tryz.func30 (by kernel_rfl) rfl #[.int .i32 118] rfl lz ?_;(with_reducible refine(zay.calls 118 ae af ag ah ai aj ak al _ A5.out).mono ?_);rintro e fu ⟨rfl,hb⟩;refine⟨_,rfl,?_⟩;replace A:=kN (g:=B) (cs:=#[.int .u64 D,.bool E]) hb bk;replace HB:=bN bz hb;(try clear hb);(try clear ay);(try clear hk);(try clear hi))|((with_reducible refine zac (f:=22) rfl ?_);refine zal (some 27) rfl rfl Tryz.func22 (by kernel_rfl) rfl #[.agg #[.bool ae,.bool af,.bool ag,.bool ah,.bool ai,.int .i64 aj,.int .i64 ak,.int .i32 al],.int .u64 a1,.string (⟨#[118,103,71]⟩:ByteArray)] rfl lz ?_;(with_reducible refine(za6.calls ae af ag ah ai aj ak al a1 (⟨#[118,103,71]⟩:ByteArray) am an ao ap ar au av aw _ A6.out).mono ?_);rintro e fv ⟨rfl,hb⟩;refine⟨_,rfl,?_⟩;replace A:=kN (g:=B) (cs:=#[.int .u64 D,.bool E]) hb bk;replace HB:=bN bz hb;(try clear hb);(try clear ay);(try clear hk);(try clear hi))|((with_reducible refine zac (f:=25) rfl ?_);refine zal (some 28) rfl rfl Tryz.func25 (by kernel_rfl) rfl #[.int .u64 U,.int .i64 I,.agg #[.bool am,.bool an,.bool ao,.bool ap,.bool ar,.int .i64 au,.int .i64 av,.int .i32 aw]] rfl lz ?_;(with_reducible refine(zah.calls k U I am an ao ap ar au av aw ax true _ A7.out).mono ?_);rintro e fw ⟨rfl,hb⟩;refine⟨_,rfl,?_⟩;replace A:=kN (g:=B) (cs:=#[.int .u64 D,.bool E]) hb bk;replace HB:=bN bz hb;(try clear hb);(try clear ay);(try clear hk);(try clear hi))|((with_reducible refine zac (f:=31) rfl ?_);refine zal (some 33) rfl rfl Tryz.func31 (by kernel_rfl) rfl #[.string ax] rfl lz ?_;(with_reducible refine(zae.calls k ax J K true _ A8.out).mono ?_);rintro e fx ⟨rfl,hb⟩;refine⟨_,rfl,?_⟩;replace A:=kN (g:=B) (cs:=#[.int .u64 D,.bool E]) hb bk;replace HB:=bN bz hb;(try clear hb);(try clear ay);(try clear hk);(try clear hi))|((with_reducible refine zak (N:=9) rfl ?_);refine zaj rfl (N:=9) rfl (cs:=#[.string (⟨#[]⟩:ByteArray),.int .i64 0]) (t:=42) gz ?_;intro M hg ey hbox hb;have aN:=gN bz hg;have aO:=gN bz hg;have X:=lN (g:=B) (cs:=#[.int .u64 D,.bool E]) hg bk;have Y:=rN (g:=B) (cs:=#[.int .u64 D,.bool E]) hg bk;replace A:=kN (g:=B) (cs:=#[.int .u64 D,.bool E]) hb bk;have O:=zaa.mk hbox;replace HB:=bN bz hb;clear hb hbox hg;have eA:=Y.out;have eB:=X.out;obtain⟨cS,cT,cV,cW⟩:=cz2 (W:=ey) O)|((with_reducible refine zac (f:=34) rfl ?_);refine zal (some 39) rfl rfl Tryz.func34 (by kernel_rfl) rfl #[.agg #[.string J,.int .i64 K],.int .i64 I] rfl lz ?_;(with_reducible refine(zbt.calls k J K I aI aJ _ A9.out).mono ?_);rintro e fy ⟨rfl,hb⟩;refine⟨_,rfl,?_⟩;replace A:=kN (g:=B) (cs:=#[.int .u64 D,.bool E]) hb bk;replace O:=kN (g:=M) (cs:=#[.string J,.int .i64 K]) hb bk;replace HB:=bN bz hb;(try clear hb);(try clear ay);(try clear hk);(try clear hi))|((with_reducible refine zac (f:=35) rfl ?_);refine zal (some 45) rfl rfl Tryz.func35 (by kernel_rfl) rfl #[.int .u64 U,.int .i64 I] rfl lz ?_;(with_reducible refine(zav.calls k U I aC aD aK _ a3.out).mono ?_);rintro e fz ⟨rfl,hb⟩;refine⟨_,rfl,?_⟩;replace A:=kN (g:=B) (cs:=#[.int .u64 D,.bool E]) hb bk;replace O:=kN (g:=M) (cs:=#[.string J,.int .i64 K]) hb bk;replace HB:=bN bz hb;(try clear hb);(try clear ay);(try clear hk);(try clear hi))|((with_reducible refine zak (N:=13) rfl ?_);refine zaj rfl (N:=13) rfl (cs:=#[.string (⟨#[]⟩:ByteArray),.int .i64 0]) (t:=42) gz ?_;intro aH hg cX hbox hb;have aP:=gN bz hg;have aQ:=gN bz hg;have Z:=lN (g:=B) (cs:=#[.int .u64 D,.bool E]) hg bk;have aa:=rN (g:=B) (cs:=#[.int .u64 D,.bool E]) hg bk;have ab:=lN (g:=M) (cs:=#[.string J,.int .i64 K]) hg bk;have ac:=rN (g:=M) (cs:=#[.string J,.int .i64 K]) hg bk;replace A:=kN (g:=B) (cs:=#[.int .u64 D,.bool E]) hb bk;replace O:=kN (g:=M) (cs:=#[.string J,.int .i64 K]) hb bk;have aB:=zaa.mk hbox;replace HB:=bN bz hb;clear hb hbox hg;have eC:=aa.out;have eD:=Z.out;have eE:=ac.out;have eG:=ab.out;obtain⟨cY,cZ,c5,c6⟩:=cz2 (W:=cX) aB;obtain⟨c7,c8,c9,da⟩:=cz2 (W:=cX) O)|(go_at_call 23;(with_reducible refine(zbi.calls k a2 _ ew.out).mono ?_);rintro e fA ⟨rfl,hb⟩;replace A:=kN (g:=B) (cs:=#[.int .u64 D,.bool E]) hb bk;replace O:=kN (g:=M) (cs:=#[.string J,.int .i64 K]) hb bk;replace aB:=kN (g:=aH) (cs:=#[.string aC,.int .i64 aD]) hb bk;replace HB:=bN bz hb;(try clear hb);(try clear ay);(try clear hk);(try clear hi)))
       go_ret
       exact⟨ez,bz⟩
      replace H:=hN H aY
      have bj:(J.toList==aC.toList&&(K==aD))=false:=by simpa using aY
      (try(have bl:decide (J.toList=aC.toList&&(K==aD))=false:=by simpa using aY))
      (try(have bm:(J.toList==aC.toList&&(K==aD))=false:=by simpa using aY))
      (try(have eH: ¬(J.toList=aC.toList&&(K==aD)):=by simpa using aY))
      clear aY
      obtain rfl:=Option.some.inj H
      go_enter Tryz.func13,Tryz.ntmps13
      go_wp2_with (first|((with_reducible refine zak (N:=2) rfl ?_);refine zaj rfl (N:=2) rfl (cs:=#[.int .u64 D,.bool E]) (t:=24) gz ?_;intro B hg aT hbox hb;have aL:=gN bz hg;have aM:=gN bz hg;have A:=zaa.mk hbox;replace HB:=bN bz hb;clear hb hbox hg;obtain⟨db,dc,dd,de⟩:=cz2 (W:=aT) A)|((with_reducible refine zac (f:=21) rfl ?_);refine zal (some 17) rfl rfl Tryz.func21 (by kernel_rfl) rfl #[.bool E] rfl lz ?_;(with_reducible refine(zba.calls E I _ A3.out).mono ?_);rintro e w' ⟨rfl,⟨nd,rfl⟩⟩;refine⟨_,rfl,?_⟩;(try(rw[zbe aT];generalize ad:World.drewN aT _=aT;have az:zaa (aT.heap[B]? =some (.cells #[.int .u64 D,.bool E] 24 (0,0))):=⟨by rw[←ad];exact bk⟩;have aA:zaa (Below w.heap.size w aT):=⟨by rw[←ad];exact bz⟩;clear A HB ad;have A:=az;have HB:=aA;clear az aA;obtain⟨bA,bB,bC,bD⟩:=cz2 (W:=aT) A)))|((with_reducible refine zac (f:=28) rfl ?_);refine zal (some 21) rfl rfl Tryz.func28 (by kernel_rfl) rfl #[.int .u64 D,.int .i64 I] rfl lz ?_;(with_reducible refine(za2.calls D I U _ A4.out).mono ?_);rintro e w' ⟨rfl,⟨nd,rfl⟩⟩;refine⟨_,rfl,?_⟩;(try(rw[zbe aT];generalize ad:World.drewN aT _=aT;have az:zaa (aT.heap[B]? =some (.cells #[.int .u64 D,.bool E] 24 (0,0))):=⟨by rw[←ad];exact bk⟩;have aA:zaa (Below w.heap.size w aT):=⟨by rw[←ad];exact bz⟩;clear A HB ad;have A:=az;have HB:=aA;clear az aA;obtain⟨bE,bG,bH,bI⟩:=cz2 (W:=aT) A)))|((with_reducible refine zac (f:=30) rfl ?_);refine zal (some 25) rfl rfl Tryz.func30 (by kernel_rfl) rfl #[.int .i32 118] rfl lz ?_;(with_reducible refine(zay.calls 118 ae af ag ah ai aj ak al _ A5.out).mono ?_);rintro e fC ⟨rfl,hb⟩;refine⟨_,rfl,?_⟩;replace A:=kN (g:=B) (cs:=#[.int .u64 D,.bool E]) hb bk;replace HB:=bN bz hb;(try clear hb);(try clear ay);(try clear hk);(try clear hi))|((with_reducible refine zac (f:=22) rfl ?_);refine zal (some 27) rfl rfl Tryz.func22 (by kernel_rfl) rfl #[.agg #[.bool ae,.bool af,.bool ag,.bool ah,.bool ai,.int .i64 aj,.int .i64 ak,.int .i32 al],.int .u64 a1,.string (⟨#[118,103,71]⟩:ByteArray)] rfl lz ?_;(with_reducible refine(za6.calls ae af ag ah ai aj ak al a1 (⟨#[118,103,71]⟩:ByteArray) am an ao ap ar au av aw _ A6.out).mono ?_);rintro e fD ⟨rfl,hb⟩;refine⟨_,rfl,?_⟩;replace A:=kN (g:=B) (cs:=#[.int .u64 D,.bool E]) hb bk;replace HB:=bN bz hb;(try clear hb);(try clear ay);(try clear hk);(try clear hi))|((with_reducible refine zac (f:=25) rfl ?_);refine zal (some 28) rfl rfl Tryz.func25 (by kernel_rfl) rfl #[.int .u64 U,.int .i64 I,.agg #[.bool am,.bool an,.bool ao,.bool ap,.bool ar,.int .i64 au,.int .i64 av,.int .i32 aw]] rfl lz ?_;(with_reducible refine(zah.calls k U I am an ao ap ar au av aw ax true _ A7.out).mono ?_);rintro e fF ⟨rfl,hb⟩;refine⟨_,rfl,?_⟩;replace A:=kN (g:=B) (cs:=#[.int .u64 D,.bool E]) hb bk;replace HB:=bN bz hb;(try clear hb);(try clear ay);(try clear hk);(try clear hi))|((with_reducible refine zac (f:=31) rfl ?_);refine zal (some 33) rfl rfl Tryz.func31 (by kernel_rfl) rfl #[.string ax] rfl lz ?_;(with_reducible refine(zae.calls k ax J K true _ A8.out).mono ?_);rintro e fG ⟨rfl,hb⟩;refine⟨_,rfl,?_⟩;replace A:=kN (g:=B) (cs:=#[.int .u64 D,.bool E]) hb bk;replace HB:=bN bz hb;(try clear hb);(try clear ay);(try clear hk);(try clear hi))|((with_reducible refine zak (N:=9) rfl ?_);refine zaj rfl (N:=9) rfl (cs:=#[.string (⟨#[]⟩:ByteArray),.int .i64 0]) (t:=42) gz ?_;intro M hg eI hbox hb;have aN:=gN bz hg;have aO:=gN bz hg;have X:=lN (g:=B) (cs:=#[.int .u64 D,.bool E]) hg bk;have Y:=rN (g:=B) (cs:=#[.int .u64 D,.bool E]) hg bk;replace A:=kN (g:=B) (cs:=#[.int .u64 D,.bool E]) hb bk;have O:=zaa.mk hbox;replace HB:=bN bz hb;clear hb hbox hg;have eJ:=Y.out;have eK:=X.out;obtain⟨df,dh,di,dj⟩:=cz2 (W:=eI) O)|((with_reducible refine zac (f:=34) rfl ?_);refine zal (some 39) rfl rfl Tryz.func34 (by kernel_rfl) rfl #[.agg #[.string J,.int .i64 K],.int .i64 I] rfl lz ?_;(with_reducible refine(zbt.calls k J K I aI aJ _ A9.out).mono ?_);rintro e fH ⟨rfl,hb⟩;refine⟨_,rfl,?_⟩;replace A:=kN (g:=B) (cs:=#[.int .u64 D,.bool E]) hb bk;replace O:=kN (g:=M) (cs:=#[.string J,.int .i64 K]) hb bk;replace HB:=bN bz hb;(try clear hb);(try clear ay);(try clear hk);(try clear hi))|((with_reducible refine zac (f:=35) rfl ?_);refine zal (some 45) rfl rfl Tryz.func35 (by kernel_rfl) rfl #[.int .u64 U,.int .i64 I] rfl lz ?_;(with_reducible refine(zav.calls k U I aC aD aK _ a3.out).mono ?_);rintro e fI ⟨rfl,hb⟩;refine⟨_,rfl,?_⟩;replace A:=kN (g:=B) (cs:=#[.int .u64 D,.bool E]) hb bk;replace O:=kN (g:=M) (cs:=#[.string J,.int .i64 K]) hb bk;replace HB:=bN bz hb;(try clear hb);(try clear ay);(try clear hk);(try clear hi))|((with_reducible refine zak (N:=13) rfl ?_);refine zaj rfl (N:=13) rfl (cs:=#[.string (⟨#[]⟩:ByteArray),.int .i64 0]) (t:=42) gz ?_;intro aH hg dk hbox hb;have aP:=gN bz hg;have aQ:=gN bz hg;have Z:=lN (g:=B) (cs:=#[.int .u64 D,.bool E]) hg bk;have aa:=rN (g:=B) (cs:=#[.int .u64 D,.bool E]) hg bk;have ab:=lN (g:=M) (cs:=#[.string J,.int .i64 K]) hg bk;have ac:=rN (g:=M) (cs:=#[.string J,.int .i64 K]) hg bk;replace A:=kN (g:=B) (cs:=#[.int .u64 D,.bool E]) hb bk;replace O:=kN (g:=M) (cs:=#[.string J,.int .i64 K]) hb bk;have aB:=zaa.mk hbox;replace HB:=bN bz hb;clear hb hbox hg;have eL:=aa.out;have eM:=Z.out;have eN:=ac.out;have eO:=ab.out;obtain⟨dl,dm,dn,dp⟩:=cz2 (W:=dk) aB;obtain⟨dq,dr,ds,dt⟩:=cz2 (W:=dk) O))
      go_ret
      exact⟨ez,bz⟩
     replace H:=hN H a9
     obtain⟨bh,bi⟩:=eF a9
     obtain rfl:=Option.some.inj H
     go_enter Tryz.func13,Tryz.ntmps13
     go_wp2_with (first|((with_reducible refine zak (N:=2) rfl ?_);refine zaj rfl (N:=2) rfl (cs:=#[.int .u64 D,.bool E]) (t:=24) gz ?_;intro B hg aU hbox hb;have aL:=gN bz hg;have aM:=gN bz hg;have A:=zaa.mk hbox;replace HB:=bN bz hb;clear hb hbox hg;obtain⟨du,dv,dw,dx⟩:=cz2 (W:=aU) A)|((with_reducible refine zac (f:=21) rfl ?_);refine zal (some 17) rfl rfl Tryz.func21 (by kernel_rfl) rfl #[.bool E] rfl lz ?_;(with_reducible refine(zba.calls E I _ A3.out).mono ?_);rintro e w' ⟨rfl,⟨nd,rfl⟩⟩;refine⟨_,rfl,?_⟩;(try(rw[zbe aU];generalize ad:World.drewN aU _=aU;have az:zaa (aU.heap[B]? =some (.cells #[.int .u64 D,.bool E] 24 (0,0))):=⟨by rw[←ad];exact bk⟩;have aA:zaa (Below w.heap.size w aU):=⟨by rw[←ad];exact bz⟩;clear A HB ad;have A:=az;have HB:=aA;clear az aA;obtain⟨bJ,bK,bL,bM⟩:=cz2 (W:=aU) A)))|((with_reducible refine zac (f:=28) rfl ?_);refine zal (some 21) rfl rfl Tryz.func28 (by kernel_rfl) rfl #[.int .u64 D,.int .i64 I] rfl lz ?_;(with_reducible refine(za2.calls D I U _ A4.out).mono ?_);rintro e w' ⟨rfl,⟨nd,rfl⟩⟩;refine⟨_,rfl,?_⟩;(try(rw[zbe aU];generalize ad:World.drewN aU _=aU;have az:zaa (aU.heap[B]? =some (.cells #[.int .u64 D,.bool E] 24 (0,0))):=⟨by rw[←ad];exact bk⟩;have aA:zaa (Below w.heap.size w aU):=⟨by rw[←ad];exact bz⟩;clear A HB ad;have A:=az;have HB:=aA;clear az aA;obtain⟨bO,bP,bQ,bR⟩:=cz2 (W:=aU) A)))|((with_reducible refine zac (f:=30) rfl ?_);refine zal (some 25) rfl rfl Tryz.func30 (by kernel_rfl) rfl #[.int .i32 118] rfl lz ?_;(with_reducible refine(zay.calls 118 ae af ag ah ai aj ak al _ A5.out).mono ?_);rintro e fJ ⟨rfl,hb⟩;refine⟨_,rfl,?_⟩;replace A:=kN (g:=B) (cs:=#[.int .u64 D,.bool E]) hb bk;replace HB:=bN bz hb;(try clear hb);(try clear ay);(try clear hk);(try clear hi))|((with_reducible refine zac (f:=22) rfl ?_);refine zal (some 27) rfl rfl Tryz.func22 (by kernel_rfl) rfl #[.agg #[.bool ae,.bool af,.bool ag,.bool ah,.bool ai,.int .i64 aj,.int .i64 ak,.int .i32 al],.int .u64 a1,.string (⟨#[118,103,71]⟩:ByteArray)] rfl lz ?_;(with_reducible refine(za6.calls ae af ag ah ai aj ak al a1 (⟨#[118,103,71]⟩:ByteArray) am an ao ap ar au av aw _ A6.out).mono ?_);rintro e fK ⟨rfl,hb⟩;refine⟨_,rfl,?_⟩;replace A:=kN (g:=B) (cs:=#[.int .u64 D,.bool E]) hb bk;replace HB:=bN bz hb;(try clear hb);(try clear ay);(try clear hk);(try clear hi))|((with_reducible refine zac (f:=25) rfl ?_);refine zal (some 28) rfl rfl Tryz.func25 (by kernel_rfl) rfl #[.int .u64 U,.int .i64 I,.agg #[.bool am,.bool an,.bool ao,.bool ap,.bool ar,.int .i64 au,.int .i64 av,.int .i32 aw]] rfl lz ?_;(with_reducible refine(zah.calls k U I am an ao ap ar au av aw ax true _ A7.out).mono ?_);rintro e fL ⟨rfl,hb⟩;refine⟨_,rfl,?_⟩;replace A:=kN (g:=B) (cs:=#[.int .u64 D,.bool E]) hb bk;replace HB:=bN bz hb;(try clear hb);(try clear ay);(try clear hk);(try clear hi))|((with_reducible refine zac (f:=31) rfl ?_);refine zal (some 33) rfl rfl Tryz.func31 (by kernel_rfl) rfl #[.string ax] rfl lz ?_;(with_reducible refine(zae.calls k ax J K true _ A8.out).mono ?_);rintro e fN ⟨rfl,hb⟩;refine⟨_,rfl,?_⟩;replace A:=kN (g:=B) (cs:=#[.int .u64 D,.bool E]) hb bk;replace HB:=bN bz hb;(try clear hb);(try clear ay);(try clear hk);(try clear hi))|((with_reducible refine zak (N:=9) rfl ?_);refine zaj rfl (N:=9) rfl (cs:=#[.string (⟨#[]⟩:ByteArray),.int .i64 0]) (t:=42) gz ?_;intro M hg eP hbox hb;have aN:=gN bz hg;have aO:=gN bz hg;have X:=lN (g:=B) (cs:=#[.int .u64 D,.bool E]) hg bk;have Y:=rN (g:=B) (cs:=#[.int .u64 D,.bool E]) hg bk;replace A:=kN (g:=B) (cs:=#[.int .u64 D,.bool E]) hb bk;have O:=zaa.mk hbox;replace HB:=bN bz hb;clear hb hbox hg;have eQ:=Y.out;have eR:=X.out;obtain⟨dy,dA,dB,dC⟩:=cz2 (W:=eP) O)|((with_reducible refine zac (f:=34) rfl ?_);refine zal (some 39) rfl rfl Tryz.func34 (by kernel_rfl) rfl #[.agg #[.string J,.int .i64 K],.int .i64 I] rfl lz ?_;(with_reducible refine(zbt.calls k J K I aI aJ _ A9.out).mono ?_);rintro e fO ⟨rfl,hb⟩;refine⟨_,rfl,?_⟩;replace A:=kN (g:=B) (cs:=#[.int .u64 D,.bool E]) hb bk;replace O:=kN (g:=M) (cs:=#[.string J,.int .i64 K]) hb bk;replace HB:=bN bz hb;(try clear hb);(try clear ay);(try clear hk);(try clear hi))|((with_reducible refine zac (f:=35) rfl ?_);refine zal (some 45) rfl rfl Tryz.func35 (by kernel_rfl) rfl #[.int .u64 U,.int .i64 I] rfl lz ?_;(with_reducible refine(zav.calls k U I aC aD aK _ a3.out).mono ?_);rintro e fP ⟨rfl,hb⟩;refine⟨_,rfl,?_⟩;replace A:=kN (g:=B) (cs:=#[.int .u64 D,.bool E]) hb bk;replace O:=kN (g:=M) (cs:=#[.string J,.int .i64 K]) hb bk;replace HB:=bN bz hb;(try clear hb);(try clear ay);(try clear hk);(try clear hi))|((with_reducible refine zak (N:=13) rfl ?_);refine zaj rfl (N:=13) rfl (cs:=#[.string (⟨#[]⟩:ByteArray),.int .i64 0]) (t:=42) gz ?_;intro aH hg eS hbox hb;have aP:=gN bz hg;have aQ:=gN bz hg;have Z:=lN (g:=B) (cs:=#[.int .u64 D,.bool E]) hg bk;have aa:=rN (g:=B) (cs:=#[.int .u64 D,.bool E]) hg bk;have ab:=lN (g:=M) (cs:=#[.string J,.int .i64 K]) hg bk;have ac:=rN (g:=M) (cs:=#[.string J,.int .i64 K]) hg bk;replace A:=kN (g:=B) (cs:=#[.int .u64 D,.bool E]) hb bk;replace O:=kN (g:=M) (cs:=#[.string J,.int .i64 K]) hb bk;have aB:=zaa.mk hbox;replace HB:=bN bz hb;clear hb hbox hg;have eU:=aa.out;have eV:=Z.out;have eW:=ac.out;have eX:=ab.out;obtain⟨dD,dE,dF,dG⟩:=cz2 (W:=eS) aB))
     go_ret
     exact⟨ez,bz⟩
    replace H:=hN H a8
    obtain⟨bf,bg⟩:=eF a8
    obtain rfl:=Option.some.inj H
    go_enter Tryz.func13,Tryz.ntmps13
    go_wp2_with (first|((with_reducible refine zak (N:=2) rfl ?_);refine zaj rfl (N:=2) rfl (cs:=#[.int .u64 D,.bool E]) (t:=24) gz ?_;intro B hg aV hbox hb;have aL:=gN bz hg;have aM:=gN bz hg;have A:=zaa.mk hbox;replace HB:=bN bz hb;clear hb hbox hg;obtain⟨dH,dI,dJ,dK⟩:=cz2 (W:=aV) A)|((with_reducible refine zac (f:=21) rfl ?_);refine zal (some 17) rfl rfl Tryz.func21 (by kernel_rfl) rfl #[.bool E] rfl lz ?_;(with_reducible refine(zba.calls E I _ A3.out).mono ?_);rintro e w' ⟨rfl,⟨nd,rfl⟩⟩;refine⟨_,rfl,?_⟩;(try(rw[zbe aV];generalize ad:World.drewN aV _=aV;have az:zaa (aV.heap[B]? =some (.cells #[.int .u64 D,.bool E] 24 (0,0))):=⟨by rw[←ad];exact bk⟩;have aA:zaa (Below w.heap.size w aV):=⟨by rw[←ad];exact bz⟩;clear A HB ad;have A:=az;have HB:=aA;clear az aA;obtain⟨bS,bU,bV,bW⟩:=cz2 (W:=aV) A)))|((with_reducible refine zac (f:=28) rfl ?_);refine zal (some 21) rfl rfl Tryz.func28 (by kernel_rfl) rfl #[.int .u64 D,.int .i64 I] rfl lz ?_;(with_reducible refine(za2.calls D I U _ A4.out).mono ?_);rintro e w' ⟨rfl,⟨nd,rfl⟩⟩;refine⟨_,rfl,?_⟩;(try(rw[zbe aV];generalize ad:World.drewN aV _=aV;have az:zaa (aV.heap[B]? =some (.cells #[.int .u64 D,.bool E] 24 (0,0))):=⟨by rw[←ad];exact bk⟩;have aA:zaa (Below w.heap.size w aV):=⟨by rw[←ad];exact bz⟩;clear A HB ad;have A:=az;have HB:=aA;clear az aA;obtain⟨bX,bY,bZ,b0⟩:=cz2 (W:=aV) A)))|((with_reducible refine zac (f:=30) rfl ?_);refine zal (some 25) rfl rfl Tryz.func30 (by kernel_rfl) rfl #[.int .i32 118] rfl lz ?_;(with_reducible refine(zay.calls 118 ae af ag ah ai aj ak al _ A5.out).mono ?_);rintro e fQ ⟨rfl,hb⟩;refine⟨_,rfl,?_⟩;replace A:=kN (g:=B) (cs:=#[.int .u64 D,.bool E]) hb bk;replace HB:=bN bz hb;(try clear hb);(try clear ay);(try clear hk);(try clear hi))|((with_reducible refine zac (f:=22) rfl ?_);refine zal (some 27) rfl rfl Tryz.func22 (by kernel_rfl) rfl #[.agg #[.bool ae,.bool af,.bool ag,.bool ah,.bool ai,.int .i64 aj,.int .i64 ak,.int .i32 al],.int .u64 a1,.string (⟨#[118,103,71]⟩:ByteArray)] rfl lz ?_;(with_reducible refine(za6.calls ae af ag ah ai aj ak al a1 (⟨#[118,103,71]⟩:ByteArray) am an ao ap ar au av aw _ A6.out).mono ?_);rintro e fR ⟨rfl,hb⟩;refine⟨_,rfl,?_⟩;replace A:=kN (g:=B) (cs:=#[.int .u64 D,.bool E]) hb bk;replace HB:=bN bz hb;(try clear hb);(try clear ay);(try clear hk);(try clear hi))|((with_reducible refine zac (f:=25) rfl ?_);refine zal (some 28) rfl rfl Tryz.func25 (by kernel_rfl) rfl #[.int .u64 U,.int .i64 I,.agg #[.bool am,.bool an,.bool ao,.bool ap,.bool ar,.int .i64 au,.int .i64 av,.int .i32 aw]] rfl lz ?_;(with_reducible refine(zah.calls k U I am an ao ap ar au av aw ax true _ A7.out).mono ?_);rintro e fS ⟨rfl,hb⟩;refine⟨_,rfl,?_⟩;replace A:=kN (g:=B) (cs:=#[.int .u64 D,.bool E]) hb bk;replace HB:=bN bz hb;(try clear hb);(try clear ay);(try clear hk);(try clear hi))|((with_reducible refine zac (f:=31) rfl ?_);refine zal (some 33) rfl rfl Tryz.func31 (by kernel_rfl) rfl #[.string ax] rfl lz ?_;(with_reducible refine(zae.calls k ax J K true _ A8.out).mono ?_);rintro e fT ⟨rfl,hb⟩;refine⟨_,rfl,?_⟩;replace A:=kN (g:=B) (cs:=#[.int .u64 D,.bool E]) hb bk;replace HB:=bN bz hb;(try clear hb);(try clear ay);(try clear hk);(try clear hi))|((with_reducible refine zak (N:=9) rfl ?_);refine zaj rfl (N:=9) rfl (cs:=#[.string (⟨#[]⟩:ByteArray),.int .i64 0]) (t:=42) gz ?_;intro M hg eY hbox hb;have aN:=gN bz hg;have aO:=gN bz hg;have X:=lN (g:=B) (cs:=#[.int .u64 D,.bool E]) hg bk;have Y:=rN (g:=B) (cs:=#[.int .u64 D,.bool E]) hg bk;replace A:=kN (g:=B) (cs:=#[.int .u64 D,.bool E]) hb bk;have O:=zaa.mk hbox;replace HB:=bN bz hb;clear hb hbox hg;have eZ:=Y.out;have e0:=X.out;obtain⟨dL,dM,dN,dO⟩:=cz2 (W:=eY) O)|((with_reducible refine zac (f:=34) rfl ?_);refine zal (some 39) rfl rfl Tryz.func34 (by kernel_rfl) rfl #[.agg #[.string J,.int .i64 K],.int .i64 I] rfl lz ?_;(with_reducible refine(zbt.calls k J K I aI aJ _ A9.out).mono ?_);rintro e fU ⟨rfl,hb⟩;refine⟨_,rfl,?_⟩;replace A:=kN (g:=B) (cs:=#[.int .u64 D,.bool E]) hb bk;replace O:=kN (g:=M) (cs:=#[.string J,.int .i64 K]) hb bk;replace HB:=bN bz hb;(try clear hb);(try clear ay);(try clear hk);(try clear hi))|((with_reducible refine zac (f:=35) rfl ?_);refine zal (some 45) rfl rfl Tryz.func35 (by kernel_rfl) rfl #[.int .u64 U,.int .i64 I] rfl lz ?_;(with_reducible refine(zav.calls k U I aC aD aK _ a3.out).mono ?_);rintro e fV ⟨rfl,hb⟩;refine⟨_,rfl,?_⟩;replace A:=kN (g:=B) (cs:=#[.int .u64 D,.bool E]) hb bk;replace O:=kN (g:=M) (cs:=#[.string J,.int .i64 K]) hb bk;replace HB:=bN bz hb;(try clear hb);(try clear ay);(try clear hk);(try clear hi))|((with_reducible refine zak (N:=13) rfl ?_);refine zaj rfl (N:=13) rfl (cs:=#[.string (⟨#[]⟩:ByteArray),.int .i64 0]) (t:=42) gz ?_;intro aH hg e1 hbox hb;have aP:=gN bz hg;have aQ:=gN bz hg;have Z:=lN (g:=B) (cs:=#[.int .u64 D,.bool E]) hg bk;have aa:=rN (g:=B) (cs:=#[.int .u64 D,.bool E]) hg bk;have ab:=lN (g:=M) (cs:=#[.string J,.int .i64 K]) hg bk;have ac:=rN (g:=M) (cs:=#[.string J,.int .i64 K]) hg bk;replace A:=kN (g:=B) (cs:=#[.int .u64 D,.bool E]) hb bk;replace O:=kN (g:=M) (cs:=#[.string J,.int .i64 K]) hb bk;have aB:=zaa.mk hbox;replace HB:=bN bz hb;clear hb hbox hg;have e2:=aa.out;have e3:=Z.out;have e4:=ac.out;have e5:=ab.out;obtain⟨dP,dQ,dR,dS⟩:=cz2 (W:=e1) aB))
    go_ret
    exact⟨ez,bz⟩
   replace H:=hN H a7
   obtain⟨bd,be⟩:=eF a7
   obtain rfl:=Option.some.inj H
   go_enter Tryz.func13,Tryz.ntmps13
   go_wp2_with (first|((with_reducible refine zak (N:=2) rfl ?_);refine zaj rfl (N:=2) rfl (cs:=#[.int .u64 D,.bool E]) (t:=24) gz ?_;intro B hg aW hbox hb;have aL:=gN bz hg;have aM:=gN bz hg;have A:=zaa.mk hbox;replace HB:=bN bz hb;clear hb hbox hg;obtain⟨dT,dU,dV,dW⟩:=cz2 (W:=aW) A)|((with_reducible refine zac (f:=21) rfl ?_);refine zal (some 17) rfl rfl Tryz.func21 (by kernel_rfl) rfl #[.bool E] rfl lz ?_;(with_reducible refine(zba.calls E I _ A3.out).mono ?_);rintro e w' ⟨rfl,⟨nd,rfl⟩⟩;refine⟨_,rfl,?_⟩;(try(rw[zbe aW];generalize ad:World.drewN aW _=aW;have az:zaa (aW.heap[B]? =some (.cells #[.int .u64 D,.bool E] 24 (0,0))):=⟨by rw[←ad];exact bk⟩;have aA:zaa (Below w.heap.size w aW):=⟨by rw[←ad];exact bz⟩;clear A HB ad;have A:=az;have HB:=aA;clear az aA;obtain⟨b1,b2,b3,b4⟩:=cz2 (W:=aW) A)))|((with_reducible refine zac (f:=28) rfl ?_);refine zal (some 21) rfl rfl Tryz.func28 (by kernel_rfl) rfl #[.int .u64 D,.int .i64 I] rfl lz ?_;(with_reducible refine(za2.calls D I U _ A4.out).mono ?_);rintro e w' ⟨rfl,⟨nd,rfl⟩⟩;refine⟨_,rfl,?_⟩;(try(rw[zbe aW];generalize ad:World.drewN aW _=aW;have az:zaa (aW.heap[B]? =some (.cells #[.int .u64 D,.bool E] 24 (0,0))):=⟨by rw[←ad];exact bk⟩;have aA:zaa (Below w.heap.size w aW):=⟨by rw[←ad];exact bz⟩;clear A HB ad;have A:=az;have HB:=aA;clear az aA;obtain⟨b5,b6,b7,b8⟩:=cz2 (W:=aW) A)))|((with_reducible refine zac (f:=30) rfl ?_);refine zal (some 25) rfl rfl Tryz.func30 (by kernel_rfl) rfl #[.int .i32 118] rfl lz ?_;(with_reducible refine(zay.calls 118 ae af ag ah ai aj ak al _ A5.out).mono ?_);rintro e fX ⟨rfl,hb⟩;refine⟨_,rfl,?_⟩;replace A:=kN (g:=B) (cs:=#[.int .u64 D,.bool E]) hb bk;replace HB:=bN bz hb;(try clear hb);(try clear ay);(try clear hk);(try clear hi))|((with_reducible refine zac (f:=22) rfl ?_);refine zal (some 27) rfl rfl Tryz.func22 (by kernel_rfl) rfl #[.agg #[.bool ae,.bool af,.bool ag,.bool ah,.bool ai,.int .i64 aj,.int .i64 ak,.int .i32 al],.int .u64 a1,.string (⟨#[118,103,71]⟩:ByteArray)] rfl lz ?_;(with_reducible refine(za6.calls ae af ag ah ai aj ak al a1 (⟨#[118,103,71]⟩:ByteArray) am an ao ap ar au av aw _ A6.out).mono ?_);rintro e fY ⟨rfl,hb⟩;refine⟨_,rfl,?_⟩;replace A:=kN (g:=B) (cs:=#[.int .u64 D,.bool E]) hb bk;replace HB:=bN bz hb;(try clear hb);(try clear ay);(try clear hk);(try clear hi))|((with_reducible refine zac (f:=25) rfl ?_);refine zal (some 28) rfl rfl Tryz.func25 (by kernel_rfl) rfl #[.int .u64 U,.int .i64 I,.agg #[.bool am,.bool an,.bool ao,.bool ap,.bool ar,.int .i64 au,.int .i64 av,.int .i32 aw]] rfl lz ?_;(with_reducible refine(zah.calls k U I am an ao ap ar au av aw ax true _ A7.out).mono ?_);rintro e fZ ⟨rfl,hb⟩;refine⟨_,rfl,?_⟩;replace A:=kN (g:=B) (cs:=#[.int .u64 D,.bool E]) hb bk;replace HB:=bN bz hb;(try clear hb);(try clear ay);(try clear hk);(try clear hi))|((with_reducible refine zac (f:=31) rfl ?_);refine zal (some 33) rfl rfl Tryz.func31 (by kernel_rfl) rfl #[.string ax] rfl lz ?_;(with_reducible refine(zae.calls k ax J K true _ A8.out).mono ?_);rintro e f0 ⟨rfl,hb⟩;refine⟨_,rfl,?_⟩;replace A:=kN (g:=B) (cs:=#[.int .u64 D,.bool E]) hb bk;replace HB:=bN bz hb;(try clear hb);(try clear ay);(try clear hk);(try clear hi))|((with_reducible refine zak (N:=9) rfl ?_);refine zaj rfl (N:=9) rfl (cs:=#[.string (⟨#[]⟩:ByteArray),.int .i64 0]) (t:=42) gz ?_;intro M hg e6 hbox hb;have aN:=gN bz hg;have aO:=gN bz hg;have X:=lN (g:=B) (cs:=#[.int .u64 D,.bool E]) hg bk;have Y:=rN (g:=B) (cs:=#[.int .u64 D,.bool E]) hg bk;replace A:=kN (g:=B) (cs:=#[.int .u64 D,.bool E]) hb bk;have O:=zaa.mk hbox;replace HB:=bN bz hb;clear hb hbox hg;have e7:=Y.out;have e8:=X.out;obtain⟨dY,dZ,d0,d5⟩:=cz2 (W:=e6) O)|((with_reducible refine zac (f:=34) rfl ?_);refine zal (some 39) rfl rfl Tryz.func34 (by kernel_rfl) rfl #[.agg #[.string J,.int .i64 K],.int .i64 I] rfl lz ?_;(with_reducible refine(zbt.calls k J K I aI aJ _ A9.out).mono ?_);rintro e f2 ⟨rfl,hb⟩;refine⟨_,rfl,?_⟩;replace A:=kN (g:=B) (cs:=#[.int .u64 D,.bool E]) hb bk;replace O:=kN (g:=M) (cs:=#[.string J,.int .i64 K]) hb bk;replace HB:=bN bz hb;(try clear hb);(try clear ay);(try clear hk);(try clear hi))|((with_reducible refine zac (f:=35) rfl ?_);refine zal (some 45) rfl rfl Tryz.func35 (by kernel_rfl) rfl #[.int .u64 U,.int .i64 I] rfl lz ?_;(with_reducible refine(zav.calls k U I aC aD aK _ a3.out).mono ?_);rintro e f3 ⟨rfl,hb⟩;refine⟨_,rfl,?_⟩;replace A:=kN (g:=B) (cs:=#[.int .u64 D,.bool E]) hb bk;replace O:=kN (g:=M) (cs:=#[.string J,.int .i64 K]) hb bk;replace HB:=bN bz hb;(try clear hb);(try clear ay);(try clear hk);(try clear hi))|((with_reducible refine zak (N:=13) rfl ?_);refine zaj rfl (N:=13) rfl (cs:=#[.string (⟨#[]⟩:ByteArray),.int .i64 0]) (t:=42) gz ?_;intro aH hg e9 hbox hb;have aP:=gN bz hg;have aQ:=gN bz hg;have Z:=lN (g:=B) (cs:=#[.int .u64 D,.bool E]) hg bk;have aa:=rN (g:=B) (cs:=#[.int .u64 D,.bool E]) hg bk;have ab:=lN (g:=M) (cs:=#[.string J,.int .i64 K]) hg bk;have ac:=rN (g:=M) (cs:=#[.string J,.int .i64 K]) hg bk;replace A:=kN (g:=B) (cs:=#[.int .u64 D,.bool E]) hb bk;replace O:=kN (g:=M) (cs:=#[.string J,.int .i64 K]) hb bk;have aB:=zaa.mk hbox;replace HB:=bN bz hb;clear hb hbox hg;have fa:=aa.out;have fb:=Z.out;have fc:=ac.out;have fe:=ab.out;obtain⟨d6,d7,d8,d9⟩:=cz2 (W:=e9) aB))
   go_ret
   exact⟨ez,bz⟩
  replace bb:=Bool.eq_false_iff.mpr bb
  subst bb
  replace H:=hF H
  obtain rfl:=Option.some.inj H
  go_enter Tryz.func13,Tryz.ntmps13
  go_wp2_with (first|((with_reducible refine zak (N:=2) rfl ?_);refine zaj rfl (N:=2) rfl (cs:=#[.int .u64 D,.bool E]) (t:=24) gz ?_;intro B hg aX hbox hb;have aL:=gN bz hg;have aM:=gN bz hg;have A:=zaa.mk hbox;replace HB:=bN bz hb;clear hb hbox hg;obtain⟨ea,eb,ec,ed⟩:=cz2 (W:=aX) A)|((with_reducible refine zac (f:=21) rfl ?_);refine zal (some 17) rfl rfl Tryz.func21 (by kernel_rfl) rfl #[.bool E] rfl lz ?_;(with_reducible refine(zba.calls E I _ A3.out).mono ?_);rintro e w' ⟨rfl,⟨nd,rfl⟩⟩;refine⟨_,rfl,?_⟩;(try(rw[zbe aX];generalize ad:World.drewN aX _=aX;have az:zaa (aX.heap[B]? =some (.cells #[.int .u64 D,.bool E] 24 (0,0))):=⟨by rw[←ad];exact bk⟩;have aA:zaa (Below w.heap.size w aX):=⟨by rw[←ad];exact bz⟩;clear A HB ad;have A:=az;have HB:=aA;clear az aA;obtain⟨ca,cb,cc,cd⟩:=cz2 (W:=aX) A)))|((with_reducible refine zac (f:=28) rfl ?_);refine zal (some 21) rfl rfl Tryz.func28 (by kernel_rfl) rfl #[.int .u64 D,.int .i64 I] rfl lz ?_;(with_reducible refine(za2.calls D I U _ A4.out).mono ?_);rintro e w' ⟨rfl,⟨nd,rfl⟩⟩;refine⟨_,rfl,?_⟩;(try(rw[zbe aX];generalize ad:World.drewN aX _=aX;have az:zaa (aX.heap[B]? =some (.cells #[.int .u64 D,.bool E] 24 (0,0))):=⟨by rw[←ad];exact bk⟩;have aA:zaa (Below w.heap.size w aX):=⟨by rw[←ad];exact bz⟩;clear A HB ad;have A:=az;have HB:=aA;clear az aA;obtain⟨ce,cf,cg,ci⟩:=cz2 (W:=aX) A)))|((with_reducible refine zac (f:=30) rfl ?_);refine zal (some 25) rfl rfl Tryz.func30 (by kernel_rfl) rfl #[.int .i32 118] rfl lz ?_;(with_reducible refine(zay.calls 118 ae af ag ah ai aj ak al _ A5.out).mono ?_);rintro e f4 ⟨rfl,hb⟩;refine⟨_,rfl,?_⟩;replace A:=kN (g:=B) (cs:=#[.int .u64 D,.bool E]) hb bk;replace HB:=bN bz hb;(try clear hb);(try clear ay);(try clear hk);(try clear hi))|((with_reducible refine zac (f:=22) rfl ?_);refine zal (some 27) rfl rfl Tryz.func22 (by kernel_rfl) rfl #[.agg #[.bool ae,.bool af,.bool ag,.bool ah,.bool ai,.int .i64 aj,.int .i64 ak,.int .i32 al],.int .u64 a1,.string (⟨#[118,103,71]⟩:ByteArray)] rfl lz ?_;(with_reducible refine(za6.calls ae af ag ah ai aj ak al a1 (⟨#[118,103,71]⟩:ByteArray) am an ao ap ar au av aw _ A6.out).mono ?_);rintro e f5 ⟨rfl,hb⟩;refine⟨_,rfl,?_⟩;replace A:=kN (g:=B) (cs:=#[.int .u64 D,.bool E]) hb bk;replace HB:=bN bz hb;(try clear hb);(try clear ay);(try clear hk);(try clear hi))|((with_reducible refine zac (f:=25) rfl ?_);refine zal (some 28) rfl rfl Tryz.func25 (by kernel_rfl) rfl #[.int .u64 U,.int .i64 I,.agg #[.bool am,.bool an,.bool ao,.bool ap,.bool ar,.int .i64 au,.int .i64 av,.int .i32 aw]] rfl lz ?_;(with_reducible refine(zah.calls k U I am an ao ap ar au av aw ax true _ A7.out).mono ?_);rintro e fi ⟨rfl,hb⟩;refine⟨_,rfl,?_⟩;replace A:=kN (g:=B) (cs:=#[.int .u64 D,.bool E]) hb bk;replace HB:=bN bz hb;(try clear hb);(try clear ay);(try clear hk);(try clear hi))|((with_reducible refine zac (f:=31) rfl ?_);refine zal (some 33) rfl rfl Tryz.func31 (by kernel_rfl) rfl #[.string ax] rfl lz ?_;(with_reducible refine(zae.calls k ax J K false _ A8.out).mono ?_);rintro e fj ⟨rfl,hb⟩;refine⟨_,rfl,?_⟩;replace A:=kN (g:=B) (cs:=#[.int .u64 D,.bool E]) hb bk;replace HB:=bN bz hb;(try clear hb);(try clear ay);(try clear hk);(try clear hi))|((with_reducible refine zak (N:=9) rfl ?_);refine zaj rfl (N:=9) rfl (cs:=#[.string (⟨#[]⟩:ByteArray),.int .i64 0]) (t:=42) gz ?_;intro M hg ee hbox hb;have aN:=gN bz hg;have aO:=gN bz hg;have X:=lN (g:=B) (cs:=#[.int .u64 D,.bool E]) hg bk;have Y:=rN (g:=B) (cs:=#[.int .u64 D,.bool E]) hg bk;replace A:=kN (g:=B) (cs:=#[.int .u64 D,.bool E]) hb bk;have O:=zaa.mk hbox;replace HB:=bN bz hb;clear hb hbox hg;have ei:=Y.out;have ej:=X.out;obtain⟨ct,cu,cv,cw⟩:=cz2 (W:=ee) O)|((with_reducible refine zac (f:=34) rfl ?_);refine zal (some 39) rfl rfl Tryz.func34 (by kernel_rfl) rfl #[.agg #[.string J,.int .i64 K],.int .i64 I] rfl lz ?_;(with_reducible refine(zbt.calls k J K I aI aJ _ A9.out).mono ?_);rintro e fk ⟨rfl,hb⟩;refine⟨_,rfl,?_⟩;replace A:=kN (g:=B) (cs:=#[.int .u64 D,.bool E]) hb bk;replace O:=kN (g:=M) (cs:=#[.string J,.int .i64 K]) hb bk;replace HB:=bN bz hb;(try clear hb);(try clear ay);(try clear hk);(try clear hi))|((with_reducible refine zac (f:=35) rfl ?_);refine zal (some 45) rfl rfl Tryz.func35 (by kernel_rfl) rfl #[.int .u64 U,.int .i64 I] rfl lz ?_;(with_reducible refine(zav.calls k U I aC aD aK _ a3.out).mono ?_);rintro e fl ⟨rfl,hb⟩;refine⟨_,rfl,?_⟩;replace A:=kN (g:=B) (cs:=#[.int .u64 D,.bool E]) hb bk;replace O:=kN (g:=M) (cs:=#[.string J,.int .i64 K]) hb bk;replace HB:=bN bz hb;(try clear hb);(try clear ay);(try clear hk);(try clear hi))|((with_reducible refine zak (N:=13) rfl ?_);refine zaj rfl (N:=13) rfl (cs:=#[.string (⟨#[]⟩:ByteArray),.int .i64 0]) (t:=42) gz ?_;intro aH hg ef hbox hb;have aP:=gN bz hg;have aQ:=gN bz hg;have Z:=lN (g:=B) (cs:=#[.int .u64 D,.bool E]) hg bk;have aa:=rN (g:=B) (cs:=#[.int .u64 D,.bool E]) hg bk;have ab:=lN (g:=M) (cs:=#[.string J,.int .i64 K]) hg bk;have ac:=rN (g:=M) (cs:=#[.string J,.int .i64 K]) hg bk;replace A:=kN (g:=B) (cs:=#[.int .u64 D,.bool E]) hb bk;replace O:=kN (g:=M) (cs:=#[.string J,.int .i64 K]) hb bk;have aB:=zaa.mk hbox;replace HB:=bN bz hb;clear hb hbox hg;have ek:=aa.out;have em:=Z.out;have en:=ac.out;have eo:=ab.out;obtain⟨cx,cy,cz,cA⟩:=cz2 (W:=ef) aB))
  go_ret
  exact⟨ez,bz⟩
 replace ba:=Bool.eq_false_iff.mpr ba
 subst ba
 replace H:=hF H
 obtain rfl:=Option.some.inj H
 go_enter Tryz.func13,Tryz.ntmps13
 go_wp2_with (first|((with_reducible refine zak (N:=2) rfl ?_);refine zaj rfl (N:=2) rfl (cs:=#[.int .u64 D,.bool E]) (t:=24) gz ?_;intro B hg aG hbox hb;have aL:=gN bz hg;have aM:=gN bz hg;have A:=zaa.mk hbox;replace HB:=bN bz hb;clear hb hbox hg;obtain⟨cB,cC,cD,cF⟩:=cz2 (W:=aG) A)|((with_reducible refine zac (f:=21) rfl ?_);refine zal (some 17) rfl rfl Tryz.func21 (by kernel_rfl) rfl #[.bool E] rfl lz ?_;(with_reducible refine(zba.calls E I _ A3.out).mono ?_);rintro e w' ⟨rfl,⟨nd,rfl⟩⟩;refine⟨_,rfl,?_⟩;(try(rw[zbe aG];generalize ad:World.drewN aG _=aG;have az:zaa (aG.heap[B]? =some (.cells #[.int .u64 D,.bool E] 24 (0,0))):=⟨by rw[←ad];exact bk⟩;have aA:zaa (Below w.heap.size w aG):=⟨by rw[←ad];exact bz⟩;clear A HB ad;have A:=az;have HB:=aA;clear az aA;obtain⟨cj,ck,cm,cn⟩:=cz2 (W:=aG) A)))|((with_reducible refine zac (f:=28) rfl ?_);refine zal (some 21) rfl rfl Tryz.func28 (by kernel_rfl) rfl #[.int .u64 D,.int .i64 I] rfl lz ?_;(with_reducible refine(za2.calls D I U _ A4.out).mono ?_);rintro e w' ⟨rfl,⟨nd,rfl⟩⟩;refine⟨_,rfl,?_⟩;(try(rw[zbe aG];generalize ad:World.drewN aG _=aG;have az:zaa (aG.heap[B]? =some (.cells #[.int .u64 D,.bool E] 24 (0,0))):=⟨by rw[←ad];exact bk⟩;have aA:zaa (Below w.heap.size w aG):=⟨by rw[←ad];exact bz⟩;clear A HB ad;have A:=az;have HB:=aA;clear az aA;obtain⟨co,cp,cq,cr⟩:=cz2 (W:=aG) A)))|((with_reducible refine zac (f:=30) rfl ?_);refine zal (some 25) rfl rfl Tryz.func30 (by kernel_rfl) rfl #[.int .i32 118] rfl lz ?_;(with_reducible refine(zay.calls 118 ae af ag ah ai aj ak al _ A5.out).mono ?_);rintro e fm ⟨rfl,hb⟩;refine⟨_,rfl,?_⟩;replace A:=kN (g:=B) (cs:=#[.int .u64 D,.bool E]) hb bk;replace HB:=bN bz hb;(try clear hb);(try clear ay);(try clear hk);(try clear hi))|((with_reducible refine zac (f:=22) rfl ?_);refine zal (some 27) rfl rfl Tryz.func22 (by kernel_rfl) rfl #[.agg #[.bool ae,.bool af,.bool ag,.bool ah,.bool ai,.int .i64 aj,.int .i64 ak,.int .i32 al],.int .u64 a1,.string (⟨#[118,103,71]⟩:ByteArray)] rfl lz ?_;(with_reducible refine(za6.calls ae af ag ah ai aj ak al a1 (⟨#[118,103,71]⟩:ByteArray) am an ao ap ar au av aw _ A6.out).mono ?_);rintro e fo ⟨rfl,hb⟩;refine⟨_,rfl,?_⟩;replace A:=kN (g:=B) (cs:=#[.int .u64 D,.bool E]) hb bk;replace HB:=bN bz hb;(try clear hb);(try clear ay);(try clear hk);(try clear hi))|((with_reducible refine zac (f:=25) rfl ?_);refine zal (some 28) rfl rfl Tryz.func25 (by kernel_rfl) rfl #[.int .u64 U,.int .i64 I,.agg #[.bool am,.bool an,.bool ao,.bool ap,.bool ar,.int .i64 au,.int .i64 av,.int .i32 aw]] rfl lz ?_;(with_reducible refine(zah.calls k U I am an ao ap ar au av aw ax false _ A7.out).mono ?_);rintro e fp ⟨rfl,hb⟩;refine⟨_,rfl,?_⟩;replace A:=kN (g:=B) (cs:=#[.int .u64 D,.bool E]) hb bk;replace HB:=bN bz hb;(try clear hb);(try clear ay);(try clear hk);(try clear hi))|((with_reducible refine zac (f:=31) rfl ?_);refine zal (some 33) rfl rfl Tryz.func31 (by kernel_rfl) rfl #[.string ax] rfl lz ?_;(with_reducible refine(zae.calls k ax J K a6 _ A8.out).mono ?_);rintro e fq ⟨rfl,hb⟩;refine⟨_,rfl,?_⟩;replace A:=kN (g:=B) (cs:=#[.int .u64 D,.bool E]) hb bk;replace HB:=bN bz hb;(try clear hb);(try clear ay);(try clear hk);(try clear hi))|((with_reducible refine zak (N:=9) rfl ?_);refine zaj rfl (N:=9) rfl (cs:=#[.string (⟨#[]⟩:ByteArray),.int .i64 0]) (t:=42) gz ?_;intro M hg eg hbox hb;have aN:=gN bz hg;have aO:=gN bz hg;have X:=lN (g:=B) (cs:=#[.int .u64 D,.bool E]) hg bk;have Y:=rN (g:=B) (cs:=#[.int .u64 D,.bool E]) hg bk;replace A:=kN (g:=B) (cs:=#[.int .u64 D,.bool E]) hb bk;have O:=zaa.mk hbox;replace HB:=bN bz hb;clear hb hbox hg;have ep:=Y.out;have eq:=X.out;obtain⟨cG,cH,cI,cJ⟩:=cz2 (W:=eg) O)|((with_reducible refine zac (f:=34) rfl ?_);refine zal (some 39) rfl rfl Tryz.func34 (by kernel_rfl) rfl #[.agg #[.string J,.int .i64 K],.int .i64 I] rfl lz ?_;(with_reducible refine(zbt.calls k J K I aI aJ _ A9.out).mono ?_);rintro e fs ⟨rfl,hb⟩;refine⟨_,rfl,?_⟩;replace A:=kN (g:=B) (cs:=#[.int .u64 D,.bool E]) hb bk;replace O:=kN (g:=M) (cs:=#[.string J,.int .i64 K]) hb bk;replace HB:=bN bz hb;(try clear hb);(try clear ay);(try clear hk);(try clear hi))|((with_reducible refine zac (f:=35) rfl ?_);refine zal (some 45) rfl rfl Tryz.func35 (by kernel_rfl) rfl #[.int .u64 U,.int .i64 I] rfl lz ?_;(with_reducible refine(zav.calls k U I aC aD aK _ a3.out).mono ?_);rintro e ft ⟨rfl,hb⟩;refine⟨_,rfl,?_⟩;replace A:=kN (g:=B) (cs:=#[.int .u64 D,.bool E]) hb bk;replace O:=kN (g:=M) (cs:=#[.string J,.int .i64 K]) hb bk;replace HB:=bN bz hb;(try clear hb);(try clear ay);(try clear hk);(try clear hi))|((with_reducible refine zak (N:=13) rfl ?_);refine zaj rfl (N:=13) rfl (cs:=#[.string (⟨#[]⟩:ByteArray),.int .i64 0]) (t:=42) gz ?_;intro aH hg eh hbox hb;have aP:=gN bz hg;have aQ:=gN bz hg;have Z:=lN (g:=B) (cs:=#[.int .u64 D,.bool E]) hg bk;have aa:=rN (g:=B) (cs:=#[.int .u64 D,.bool E]) hg bk;have ab:=lN (g:=M) (cs:=#[.string J,.int .i64 K]) hg bk;have ac:=rN (g:=M) (cs:=#[.string J,.int .i64 K]) hg bk;replace A:=kN (g:=B) (cs:=#[.int .u64 D,.bool E]) hb bk;replace O:=kN (g:=M) (cs:=#[.string J,.int .i64 K]) hb bk;have aB:=zaa.mk hbox;replace HB:=bN bz hb;clear hb hbox hg;have er:=aa.out;have et:=Z.out;have eu:=ac.out;have ev:=ab.out;obtain⟨cK,cL,cM,cN⟩:=cz2 (W:=eh) aB))
 go_ret
 exact⟨ez,bz⟩
end
end Go.Proofs.YtecpgdfnamkfdaaGreatDoor.Fn
end
section
namespace Go.Proofs.YtecpgdfnamkfdaaGreatDoor.Pure
open Go.RowKit Go.Proofs.YtecpgdfnamkfdaaGreatDoorW.PrintWords Go.Proofs.YtecpgdfnamkfdaaGreatDoorW.PrintLast Go.Proofs.YtecpgdfnamkfdaaGreatDoorW.PrintMore Go.Proofs.YtecpgdfnamkfdaaGreatDoor.Fn
set_option linter.unusedVariables false
set_option linter.unusedSimpArgs false
theorem zek(wide:Bool){p:Nat}(hp:p<ii wide):shortS wide p=(S (shortL wide p).1,(shortL wide p).2,0):=by
  rw[zdA wide hp]
  unfold shortL
  split<;>rfl
theorem zi1(wide:Bool){p:Nat}(hp:p<ii wide):(shortL wide p).1.length≤17:=by
  have hsz:=zgs wide hp
  rw[zek wide hp] at hsz
  have h2:(S (shortL wide p).1).size≤if wide then 17 else 9:=hsz
  rw[zaE] at h2
  generalize (shortL wide p).1.length=n at h2
  split at h2<;>omega
theorem zgu(wide:Bool){p:Nat}(hp:p<ii wide):rdS wide (S (shortL wide p).1) (shortL wide p).2=((p:Int),0):=by
  have hbr:=zhc wide hp
  rw[zek wide hp] at hbr
  exact hbr
theorem zhn(wide:Bool){p:Nat}(hp:p<ii wide){v:Int}(hv:v=118∨v=103∨v=71):
    floatS wide p false false false false false (-1) (-1) v=(S (genL false (bigV v) (shortL wide p) 6 21),true):=by
  have hc:codeV v=3:=by rcases hv with rfl|rfl|rfl<;>rfl
  have hn:(p / tt wide%2==1)=false:=by
    have:=(zcE wide).2.1
    rw[Nat.div_eq_of_lt (by omega)]
    rfl
  unfold floatS
  have hs:signL false 0 false false=[]:=by unfold signL;simp
  have hk:clamp (-1)<0:=by unfold clamp;omega
  rw[hc,if_neg (by decide),zfL wide hp,if_pos hp,hn,zhY _ _ _ _ (by decide),hs,List.nil_append]
  unfold restL
  rw[hc,if_neg (by decide),if_neg (by decide),if_pos (Eq.refl (3:Int)),Bool.false_and]
  unfold genOf
  rw[if_pos hk]
theorem zh4{ff:Nat→Option (ByteArray×Bool)}{fr:Nat→ByteArray→Option (ByteArray×Int×Bool)}{fs:Nat→ByteArray→Int→Option (Int×Int)}{ft:Nat→Option (ByteArray×Int×Int)}{P q:Int}{T d:ByteArray}
    (f1:Ev (fun k=>ff k) (T,true)) (f2:Ev (fun k=>fr k T) (d,q,true)) (f3:Ev (fun k=>fs k d q) (P,0)) (f4:Ev (fun k=>ft k) (d,q,0)):
    Ev (fun k=>(ff k).bind fun b1=>((fr k b1.1).bind fun b2=>((fs k b2.1 b2.2.1).bind fun b3=>((ft k).bind fun b4=>(if b1.2=true then(if b2.2.2=true then(if b3.2=0 then(if b4.2.2=0 then(if b3.1=P then(if(b2.1.toList==b4.1.toList&&(b2.2.1==b4.2.1))=true then((zbi.f k).bind fun t=>(some t)) else(some false)) else(some false)) else(some false)) else(some false)) else(some false)) else(some false)))))) true:=by
  refine Ev.bind f1 (Ev.bind f2 (Ev.bind f3 (Ev.bind f4 ?_)))
  refine Ev.congr (fun k=>if_pos rfl) ?_
  refine Ev.congr (fun k=>if_pos rfl) ?_
  refine Ev.congr (fun k=>if_pos rfl) ?_
  refine Ev.congr (fun k=>if_pos rfl) ?_
  refine Ev.congr (fun k=>if_pos rfl) ?_
  refine Ev.congr (fun k=>if_pos (by simp)) ?_
  exact zhk
theorem zh5{sz:Option Int}{fin:Int→Option Int}{ba:Option (Bool×Bool×Bool×Bool×Bool×Int×Int×Int)}{vb:Bool→Bool→Bool→Bool→Bool→Int→Int→Int→Option (Bool×Bool×Bool×Bool×Bool×Int×Int×Int)}
    {ff:Nat→Int→Int→Bool→Bool→Bool→Bool→Bool→Int→Int→Int→Option (ByteArray×Bool)} {fr:Nat→ByteArray→Option (ByteArray×Int×Bool)} {fs:Nat→ByteArray→Int→Int→Option (Int×Int)} {ft:Nat→Int→Int→Option (ByteArray×Int×Int)} {n P q v x:Int} {T d:ByteArray}
    (h1:sz=some n) (h2:fin n=some P) (h3:ba=some (false,false,false,false,false,-1,-1,x)) (h4:vb false false false false false (-1) (-1) x=some (false,false,false,false,false,-1,-1,v))
    (f1:Ev (fun k=>ff k P n false false false false false (-1) (-1) v) (T,true)) (f2:Ev (fun k=>fr k T) (d,q,true)) (f3:Ev (fun k=>fs k d q n) (P,0)) (f4:Ev (fun k=>ft k P n) (d,q,0)):
    Ev (fun k=>sz.bind fun n=>((fin n).bind fun P=>(ba.bind fun b=>((vb b.1 b.2.1 b.2.2.1 b.2.2.2.1 b.2.2.2.2.1 b.2.2.2.2.2.1 b.2.2.2.2.2.2.1 b.2.2.2.2.2.2.2).bind fun c=>((ff k P n c.1 c.2.1 c.2.2.1 c.2.2.2.1 c.2.2.2.2.1 c.2.2.2.2.2.1 c.2.2.2.2.2.2.1 c.2.2.2.2.2.2.2).bind fun b1=>((fr k b1.1).bind fun b2=>((fs k b2.1 b2.2.1 n).bind fun b3=>((ft k P n).bind fun b4=>(if b1.2=true then(if b2.2.2=true then(if b3.2=0 then(if b4.2.2=0 then(if b3.1=P then(if(b2.1.toList==b4.1.toList&&(b2.2.1==b4.2.1))=true then((zbi.f k).bind fun t=>(some t)) else(some false)) else(some false)) else(some false)) else(some false)) else(some false)) else(some false)))))))))) true:=by
  subst h1 h3
  simp only[Option.bind_some]
  rw[h2]
  simp only[Option.bind_some]
  rw[h4]
  simp only[Option.bind_some]
  exact zh4 (ff:=fun k=>ff k P n false false false false false (-1) (-1) v) (fr:=fr) (fs:=fun k t q=>fs k t q n) (ft:=fun k=>ft k P n) f1 f2 f3 f4
theorem FloatsBack: ∀(A:Int) (B:Bool) (a1:Int),(Lit.int .u64 A).wf=true→(Lit.int .u64 a1).wf=true→ ∃k,platenlaw06_FloatsBack.f k A B a1=some true:=by
  intro a0 wide a1 h0 h1
  obtain⟨a,rfl,ha⟩:=wf_u64 h0
  obtain⟨b,rfl,hb⟩:=wf_u64 h1
  refine Ev.rounds (g:=fun k=>platenlaw06_FloatsBack.f k (a:Int) wide (b:Int)) ?_
  obtain⟨p,hf,hp⟩:=zi0 wide a ha
  obtain⟨v,hv,hvb⟩:=zjP b hb 118
  have hi:=zcE wide
  have f1:=zdD wide (a:=p) (by omega) false false false false false (-1) (-1) v
  rw[zhn wide hp hv] at f1
  have hS:=zek wide hp
  have hbr:=zgu wide hp
  have hok:=zdR wide hp
  have f4:=zd4 wide p (by omega)
  rw[hS] at f4
  have f2:=zh3 hok.1 (Nat.le_trans (zi1 wide hp) (by decide)) hok.2.2 (bigV v)
  have f3:=ziI wide (S (shortL wide p).1) (shortL wide p).2
  rw[hbr] at f3
  exact zh5 (fin:=fun n=>za2.f (a:Int) n) (vb:=fun b0 b1 b2 b3 b4 b5 b6 b7=>za6.f b0 b1 b2 b3 b4 b5 b6 b7 (b:Int) (⟨#[118,103,71]⟩:ByteArray)) (ff:=zah.f) (fr:=fun k t=>zae.f k t) (fs:=zbt.f) (ft:=zav.f) (zjC wide) hf rfl hvb f1 f2 f3 f4
end Go.Proofs.YtecpgdfnamkfdaaGreatDoor.Pure
end
