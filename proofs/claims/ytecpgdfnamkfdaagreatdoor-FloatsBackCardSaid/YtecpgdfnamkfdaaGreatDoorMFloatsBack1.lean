/- The law FloatsBack: the walks through its functions and its plain law (part 1). Own texts and the kit's printed words for this seat, without what the law does not use: put together by merge.py (of this work). -/
import Derived.Test.YtecpgdfnamkfdaaGreatDoorMFloatsBack0
section
namespace Go.Proofs.YtecpgdfnamkfdaaGreatDoor.Fn
open Go.RowKit Go.Proofs.YtecpgdfnamkfdaaGreatDoorW.PrintWords Go.Proofs.YtecpgdfnamkfdaaGreatDoorW.PrintLast Go.Proofs.YtecpgdfnamkfdaaGreatDoorW.PrintMore
set_option linter.unusedVariables false
set_option linter.unusedSimpArgs false
set_option maxHeartbeats 8000000
set_option maxRecDepth 100000
section
attribute [local go_sem] fnW_0 fnW_1 fnW_2 fnW_3 fnW_4 fnW_5 fnW_guard fnW_eql zaK zaL zaQ zaR
def zbG.f(k:Nat)(I:ByteArray)(J:Int)(D:ByteArray)(E:Int):Option (ByteArray×Int×ByteArray×Int×Int):=(zaA.f k I J).bind fun A=>(if A.2.2=0 then((zaA.f k D E).bind fun B=>(some (A.1,A.2.1,B.1,B.2.1,B.2.2))) else(some (A.1,A.2.1,D,E,A.2.2)))
theorem zbG.calls(k:Nat)(ae:ByteArray)(af:Int)(ac:ByteArray)(ad:Int)(r1:ByteArray)(r2:Int)(r3:ByteArray)(r4:Int)(r5:Int)(w:World)(h:zbG.f k ae af ac ad=some (r1,r2,r3,r4,r5)):
  Calls Tryz.prog 127 #[.agg #[.string ae,.int .i64 af],.agg #[.string ac,.int .i64 ad]] w fun e w'=>e= .returned (.tuple #[.agg #[.string r1,.int .i64 r2],.agg #[.string r3,.int .i64 r4],.int .i64 r5])∧Below w.heap.size w w':=by
 have cm:=Tryz.underlying42
 have HB:=zaa.mk (Below.refl w.heap.size w)
 have H:((zaA.f k ae af).bind fun ao=>(if ao.2.2=0 then((zaA.f k ac ad).bind fun av=>(some (ao.1,ao.2.1,av.1,av.2.1,av.2.2))) else(some (ao.1,ao.2.1,ac,ad,ao.2.2))))=some (r1,r2,r3,r4,r5):=h
 clear h
 replace H:=bs H
 obtain⟨⟨ak,al,aH⟩,A3,H⟩:=H
 dsimp only at H
 go_enter Tryz.func127,Tryz.ntmps127
 go_upto_if 14 with(first|((with_reducible refine zak (N:=2) rfl ?_);refine zaj rfl (N:=2) rfl (cs:=#[.string ae,.int .i64 af]) (t:=42) gz ?_;intro A hg w4 hbox hb;have bV:=gN bz hg;have U:=zaa.mk hbox;replace HB:=bN bz hb;clear hb hbox hg)|((with_reducible refine zak (N:=3) rfl ?_);refine zaj rfl (N:=3) rfl (cs:=#[.string ac,.int .i64 ad]) (t:=42) gz ?_;intro M hg w5 hbox hb;have bW:=gN bz hg;have ap:=lN (g:=A) (cs:=#[.string ae,.int .i64 af]) hg bk;have ar:=rN (g:=A) (cs:=#[.string ae,.int .i64 af]) hg bk;replace U:=kN (g:=A) (cs:=#[.string ae,.int .i64 af]) hb bk;have Y:=zaa.mk hbox;replace HB:=bN bz hb;clear hb hbox hg)|((with_reducible refine zak (N:=4) rfl ?_);refine zaj rfl (N:=4) rfl (cs:=#[.string (⟨#[]⟩:ByteArray),.int .i64 0]) (t:=42) gz ?_;intro B hg w6 hbox hb;have bX:=gN bz hg;have D:=lN (g:=A) (cs:=#[.string ae,.int .i64 af]) hg bk;have ag:=rN (g:=A) (cs:=#[.string ae,.int .i64 af]) hg bk;have E:=lN (g:=M) (cs:=#[.string ac,.int .i64 ad]) hg bk;have ah:=rN (g:=M) (cs:=#[.string ac,.int .i64 ad]) hg bk;replace U:=kN (g:=A) (cs:=#[.string ae,.int .i64 af]) hb bk;replace Y:=kN (g:=M) (cs:=#[.string ac,.int .i64 ad]) hb bk;have X:=zaa.mk hbox;replace HB:=bN bz hb;clear hb hbox hg)|((with_reducible refine zak (N:=5) rfl ?_);refine zaj rfl (N:=5) rfl (cs:=#[.string (⟨#[]⟩:ByteArray),.int .i64 0]) (t:=42) gz ?_;intro O hg w7 hbox hb;have bY:=gN bz hg;have I:=lN (g:=A) (cs:=#[.string ae,.int .i64 af]) hg bk;have ai:=rN (g:=A) (cs:=#[.string ae,.int .i64 af]) hg bk;have J:=lN (g:=M) (cs:=#[.string ac,.int .i64 ad]) hg bk;have aj:=rN (g:=M) (cs:=#[.string ac,.int .i64 ad]) hg bk;have aa:=lN (g:=B) (cs:=#[.string (⟨#[]⟩:ByteArray),.int .i64 0]) hg bk;have ab:=rN (g:=B) (cs:=#[.string (⟨#[]⟩:ByteArray),.int .i64 0]) hg bk;replace U:=kN (g:=A) (cs:=#[.string ae,.int .i64 af]) hb bk;replace Y:=kN (g:=M) (cs:=#[.string ac,.int .i64 ad]) hb bk;replace X:=kN (g:=B) (cs:=#[.string (⟨#[]⟩:ByteArray),.int .i64 0]) hb bk;have Z:=zaa.mk hbox;replace HB:=bN bz hb;clear hb hbox hg;have cn:=ap.out;have co:=ar.out;have cp:=D.out;have cq:=ag.out;have bZ:=I.out;have b0:=ai.out;obtain⟨aI,aJ,aK,aL⟩:=cz2 (W:=w7) U)|((with_reducible refine zac (f:=50) rfl ?_);refine zal (some 10) rfl rfl Tryz.func50 (by kernel_rfl) rfl #[.agg #[.string ae,.int .i64 af]] rfl lz ?_;(with_reducible refine(zaA.calls k ae af ak al aH _ A3.out).mono ?_);rintro e au ⟨rfl,hb⟩;refine⟨_,rfl,?_⟩;replace U:=kN (g:=A) (cs:=#[.string ae,.int .i64 af]) hb bk;replace Y:=kN (g:=M) (cs:=#[.string ac,.int .i64 ad]) hb bk;replace X:=kN (g:=B) (cs:=#[.string (⟨#[]⟩:ByteArray),.int .i64 0]) hb bk;replace Z:=kN (g:=O) (cs:=#[.string (⟨#[]⟩:ByteArray),.int .i64 0]) hb bk;replace HB:=bN bz hb;(try clear hb);(try clear b1);(try clear hk);(try clear hi);obtain⟨aM,aN,aO,aP⟩:=cz2 (W:=au) U))
 (try simp only[Act.put,List.setIfInBounds_toArray,List.set_cons_zero,List.set_cons_succ])
 by_cases aE:aH=0
 ·replace H:=hE H aE
  obtain⟨aw,ax⟩:=eT aE
  clear aE
  try first|rw[aw]|rw[ax]
  replace H:=bs H
  obtain⟨⟨am,an,aQ⟩,b2,H⟩:=H
  dsimp only at H
  simp only[Option.some.injEq,Prod.mk.injEq] at H
  obtain⟨rfl,rfl,rfl,rfl,rfl⟩:=H
  have b3:=ar.out
  have b4:=ap.out
  have b5:=E.out
  have b6:=ah.out
  have b7:=J.out
  have b8:=aj.out
  obtain⟨aR,aS,aT,aU⟩:=cz2 (W:=au) Y
  try go_wp2_with (first|((with_reducible refine zac (f:=50) rfl ?_);refine zal (some 20) rfl rfl Tryz.func50 (by kernel_rfl) rfl #[.agg #[.string ac,.int .i64 ad]] rfl lz ?_;(with_reducible refine(zaA.calls k ac ad am an aQ _ b2.out).mono ?_);rintro e ay ⟨rfl,hb⟩;refine⟨_,rfl,?_⟩;replace U:=kN (g:=A) (cs:=#[.string ak,.int .i64 al]) hb bk;replace Y:=kN (g:=M) (cs:=#[.string ac,.int .i64 ad]) hb bk;replace X:=kN (g:=B) (cs:=#[.string (⟨#[]⟩:ByteArray),.int .i64 0]) hb bk;replace Z:=kN (g:=O) (cs:=#[.string (⟨#[]⟩:ByteArray),.int .i64 0]) hb bk;replace HB:=bN bz hb;(try clear hb);(try clear b1);(try clear hk);(try clear hi);obtain⟨aV,aW,aX,aY⟩:=cz2 (W:=ay) Y))
  have az:zaa (((ay.setCell ⟨M,0,none⟩ (.string am)).setCell ⟨M,1,none⟩ (.int .i64 an)).heap[A]? =some (.cells #[.string ak,.int .i64 al] 42 (0,0))):=⟨bk⟩
  have aA:zaa (((ay.setCell ⟨M,0,none⟩ (.string am)).setCell ⟨M,1,none⟩ (.int .i64 an)).heap[M]? =some (.cells #[.string am,.int .i64 an] 42 (0,0))):=⟨bk⟩
  have aB:zaa (((ay.setCell ⟨M,0,none⟩ (.string am)).setCell ⟨M,1,none⟩ (.int .i64 an)).heap[B]? =some (.cells #[.string (⟨#[]⟩:ByteArray),.int .i64 0] 42 (0,0))):=⟨bk⟩
  have aC:zaa (((ay.setCell ⟨M,0,none⟩ (.string am)).setCell ⟨M,1,none⟩ (.int .i64 an)).heap[O]? =some (.cells #[.string (⟨#[]⟩:ByteArray),.int .i64 0] 42 (0,0))):=⟨bk⟩
  have aD:zaa (Below w.heap.size w ((ay.setCell ⟨M,0,none⟩ (.string am)).setCell ⟨M,1,none⟩ (.int .i64 an))):=⟨bz⟩
  (try clear U)
  (try clear Y)
  (try clear X)
  (try clear Z)
  (try clear HB)
  generalize ((ay.setCell ⟨M,0,none⟩ (.string am)).setCell ⟨M,1,none⟩ (.int .i64 an))=ca at az aA aB aC aD ⊢
  have U:=az
  have Y:=aA
  have X:=aB
  have Z:=aC
  have HB:=aD
  clear az aA aB aC aD
  replace U:=zaa.mk (zaw U.out)
  replace Y:=zaa.mk (zaw Y.out)
  replace X:=zaa.mk (zaw X.out)
  replace Z:=zaa.mk (zaw Z.out)
  replace HB:=zaa.mk (zaT HB.out)
  refine zbo (n:=6) (S:=fun w'=>w'.cell? ⟨A,0,none⟩=some (.string ak)∧w'.cell? ⟨A,1,none⟩=some (.int .i64 al)∧w'.cell? ⟨M,0,none⟩=some (.string am)∧w'.cell? ⟨M,1,none⟩=some (.int .i64 an)) (ds:=[]) #[false,false,false,false,false,false] (by kernel_rfl) rfl rfl ⟨(zab U.out 0).trans rfl,(zab U.out 1).trans rfl,(zab Y.out 0).trans rfl,(zab Y.out 1).trans rfl⟩ (fun hHeld=>?_)
  generalize ca.drew=aF at U Y X Z HB hHeld ⊢
  refine zau (i:=2) (N:=some 25) (v:=?_) (a':=?_) #[false,false,true,false,false,false] rfl rfl (by kernel_rfl) (fun _ _ _ h=>h) (Or.inl ⟨by rfl,?_⟩) ?_ ?_
  rotate_left
  ·intro w'
   go_simp
   with_reducible rfl
  rotate_left
  ·simp only[Act.put,List.setIfInBounds_toArray,List.set_cons_zero,List.set_cons_succ,zad,zaf]
   rfl
  refine zaW (i:=0) (N:=some 23) (v:=?_) (a':=?_) #[true,false,true,false,false,false] rfl rfl (by kernel_rfl) (fun _ _ _ h=>h) (Or.inl ⟨by rfl,?_⟩) hHeld ?_ ?_
  rotate_left
  ·rintro w' ⟨s0,s1,s2,s3⟩
   go_simp
   with_reducible rfl
  rotate_left
  ·simp only[Act.put,List.setIfInBounds_toArray,List.set_cons_zero,List.set_cons_succ,zad,zaf]
   rfl
  refine zaW (i:=1) (N:=some 24) (v:=?_) (a':=?_) #[true,true,true,false,false,false] rfl rfl (by kernel_rfl) (fun _ _ _ h=>h) (Or.inl ⟨by rfl,?_⟩) hHeld ?_ ?_
  rotate_left
  ·rintro w' ⟨s0,s1,s2,s3⟩
   go_simp
   with_reducible rfl
  rotate_left
  ·simp only[Act.put,List.setIfInBounds_toArray,List.set_cons_zero,List.set_cons_succ,zad,zaf]
   rfl
  refine one_ (i:=3) (N:=none) #[true,true,true,true,false,false] rfl rfl (by kernel_rfl) (by decide) (fun K hK=>?_)
  have cr:aF.cell? ⟨B,0,none⟩=some (.string (⟨#[]⟩:ByteArray)):=(zab X.out 0).trans rfl
  have cb:=zaP X.out 0
  have aZ:=D.out
  have a1:=E.out
  have a2:=ab.out
  have a3:=ag.out
  have a4:=ah.out
  have a5:=aa.out
  have ct:aF.cell? ⟨B,1,none⟩=some (.int .i64 0):=(zab X.out 1).trans rfl
  have cc:=zaP X.out 1
  have a6:=D.out
  have a7:=E.out
  have a8:=ab.out
  have a9:=ag.out
  have ba:=ah.out
  have bb:=aa.out
  refine zep (w1:=?_) (by rfl) rfl ?_ ?_
  rotate_left
  ·go_simp
   rfl
  refine hK.out _ _ ⟨((cell_far (p:=⟨B,_,none⟩) D.out _).trans (((cell_far (p:=⟨B,_,none⟩) D.out _).trans (hHeld.1)))),((cell_far (p:=⟨B,_,none⟩) D.out _).trans (((cell_far (p:=⟨B,_,none⟩) D.out _).trans (hHeld.2.1)))),((cell_far (p:=⟨B,_,none⟩) E.out _).trans (((cell_far (p:=⟨B,_,none⟩) E.out _).trans (hHeld.2.2.1)))),((cell_far (p:=⟨B,_,none⟩) E.out _).trans (((cell_far (p:=⟨B,_,none⟩) E.out _).trans (hHeld.2.2.2))))⟩ (fun hHeld=>?_)
  clear hK K
  refine one_ (i:=4) (N:=none) #[true,true,true,true,true,false] rfl rfl (by kernel_rfl) (by decide) (fun K hK=>?_)
  have cu:aF.cell? ⟨O,0,none⟩=some (.string (⟨#[]⟩:ByteArray)):=(zab Z.out 0).trans rfl
  have cd:=zaP Z.out 0
  have bc:=I.out
  have bd:=J.out
  have be:=aa.out
  have bf:=ai.out
  have bg:=aj.out
  have bh:=ab.out
  have cv:aF.cell? ⟨O,1,none⟩=some (.int .i64 0):=(zab Z.out 1).trans rfl
  have ce:=zaP Z.out 1
  have bi:=I.out
  have bj:=J.out
  have bl:=aa.out
  have bm:=ai.out
  have bn:=aj.out
  have bo:=ab.out
  refine zep (w1:=?_) (by rfl) rfl ?_ ?_
  rotate_left
  ·go_simp
   rfl
  refine hK.out _ _ ⟨((cell_far (p:=⟨O,_,none⟩) I.out _).trans (((cell_far (p:=⟨O,_,none⟩) I.out _).trans (hHeld.1)))),((cell_far (p:=⟨O,_,none⟩) I.out _).trans (((cell_far (p:=⟨O,_,none⟩) I.out _).trans (hHeld.2.1)))),((cell_far (p:=⟨O,_,none⟩) J.out _).trans (((cell_far (p:=⟨O,_,none⟩) J.out _).trans (hHeld.2.2.1)))),((cell_far (p:=⟨O,_,none⟩) J.out _).trans (((cell_far (p:=⟨O,_,none⟩) J.out _).trans (hHeld.2.2.2))))⟩ (fun hHeld=>?_)
  clear hK K
  refine zau (i:=5) (N:=some 6) (v:=?_) (a':=?_) #[true,true,true,true,true,true] rfl rfl (by kernel_rfl) (fun _ _ _ h=>h) (Or.inl ⟨by rfl,?_⟩) ?_ ?_
  rotate_left
  ·intro w'
   go_simp
   with_reducible rfl
  rotate_left
  ·simp only[Act.put,List.setIfInBounds_toArray,List.set_cons_zero,List.set_cons_succ,zad,zaf]
   rfl
  refine zbx (by kernel_rfl) ?_
  try go_wp2
  refine bodyPost_ret (zbU (rs:=[.cell 4 42,.cell 5 42,.tmp 6]) rfl (by simp) (.cell B 42 #[.string ak,.int .i64 al] (0,0) _ rfl bk Tryz.underlying42 rfl (by kernel_rfl) (.cell O 42 #[.string am,.int .i64 an] (0,0) _ rfl bk Tryz.underlying42 rfl (by kernel_rfl) (.tmp .nil)))) rfl ?_
  exact⟨ez,bz⟩
 replace H:=hN H aE
 obtain⟨aw,ax⟩:=eF aE
 try first|rw[aw]|rw[ax]
 simp only[Option.some.injEq,Prod.mk.injEq] at H
 obtain⟨rfl,rfl,rfl,rfl,rfl⟩:=H
 try go_wp2
 have az:zaa (((au.setCell ⟨A,0,none⟩ (.string ak)).setCell ⟨A,1,none⟩ (.int .i64 al)).heap[A]? =some (.cells #[.string ak,.int .i64 al] 42 (0,0))):=⟨bk⟩
 have aA:zaa (((au.setCell ⟨A,0,none⟩ (.string ak)).setCell ⟨A,1,none⟩ (.int .i64 al)).heap[M]? =some (.cells #[.string ac,.int .i64 ad] 42 (0,0))):=⟨bk⟩
 have aB:zaa (((au.setCell ⟨A,0,none⟩ (.string ak)).setCell ⟨A,1,none⟩ (.int .i64 al)).heap[B]? =some (.cells #[.string (⟨#[]⟩:ByteArray),.int .i64 0] 42 (0,0))):=⟨bk⟩
 have aC:zaa (((au.setCell ⟨A,0,none⟩ (.string ak)).setCell ⟨A,1,none⟩ (.int .i64 al)).heap[O]? =some (.cells #[.string (⟨#[]⟩:ByteArray),.int .i64 0] 42 (0,0))):=⟨bk⟩
 have aD:zaa (Below w.heap.size w ((au.setCell ⟨A,0,none⟩ (.string ak)).setCell ⟨A,1,none⟩ (.int .i64 al))):=⟨bz⟩
 (try clear U)
 (try clear Y)
 (try clear X)
 (try clear Z)
 (try clear HB)
 generalize ((au.setCell ⟨A,0,none⟩ (.string ak)).setCell ⟨A,1,none⟩ (.int .i64 al))=cf at az aA aB aC aD ⊢
 have U:=az
 have Y:=aA
 have X:=aB
 have Z:=aC
 have HB:=aD
 clear az aA aB aC aD
 replace U:=zaa.mk (zaw U.out)
 replace Y:=zaa.mk (zaw Y.out)
 replace X:=zaa.mk (zaw X.out)
 replace Z:=zaa.mk (zaw Z.out)
 replace HB:=zaa.mk (zaT HB.out)
 refine zbo (n:=6) (S:=fun w'=>w'.cell? ⟨A,0,none⟩=some (.string ak)∧w'.cell? ⟨A,1,none⟩=some (.int .i64 al)∧w'.cell? ⟨M,0,none⟩=some (.string ac)∧w'.cell? ⟨M,1,none⟩=some (.int .i64 ad)) (ds:=[]) #[false,false,false,false,false,false] (by kernel_rfl) rfl rfl ⟨(zab U.out 0).trans rfl,(zab U.out 1).trans rfl,(zab Y.out 0).trans rfl,(zab Y.out 1).trans rfl⟩ (fun hHeld=>?_)
 generalize cf.drew=aG at U Y X Z HB hHeld ⊢
 refine zau (i:=2) (N:=some 17) (v:=?_) (a':=?_) #[false,false,true,false,false,false] rfl rfl (by kernel_rfl) (fun _ _ _ h=>h) (Or.inl ⟨by rfl,?_⟩) ?_ ?_
 rotate_left
 ·intro w'
  go_simp
  with_reducible rfl
 rotate_left
 ·simp only[Act.put,List.setIfInBounds_toArray,List.set_cons_zero,List.set_cons_succ,zad,zaf]
  rfl
 refine zaW (i:=0) (N:=some 15) (v:=?_) (a':=?_) #[true,false,true,false,false,false] rfl rfl (by kernel_rfl) (fun _ _ _ h=>h) (Or.inl ⟨by rfl,?_⟩) hHeld ?_ ?_
 rotate_left
 ·rintro w' ⟨s0,s1,s2,s3⟩
  go_simp
  with_reducible rfl
 rotate_left
 ·simp only[Act.put,List.setIfInBounds_toArray,List.set_cons_zero,List.set_cons_succ,zad,zaf]
  rfl
 refine zaW (i:=1) (N:=some 16) (v:=?_) (a':=?_) #[true,true,true,false,false,false] rfl rfl (by kernel_rfl) (fun _ _ _ h=>h) (Or.inl ⟨by rfl,?_⟩) hHeld ?_ ?_
 rotate_left
 ·rintro w' ⟨s0,s1,s2,s3⟩
  go_simp
  with_reducible rfl
 rotate_left
 ·simp only[Act.put,List.setIfInBounds_toArray,List.set_cons_zero,List.set_cons_succ,zad,zaf]
  rfl
 refine one_ (i:=3) (N:=none) #[true,true,true,true,false,false] rfl rfl (by kernel_rfl) (by decide) (fun K hK=>?_)
 have cw:aG.cell? ⟨B,0,none⟩=some (.string (⟨#[]⟩:ByteArray)):=(zab X.out 0).trans rfl
 have cg:=zaP X.out 0
 have bp:=D.out
 have bq:=E.out
 have br:=ab.out
 have bu:=ag.out
 have bv:=ah.out
 have bw:=aa.out
 have cx:aG.cell? ⟨B,1,none⟩=some (.int .i64 0):=(zab X.out 1).trans rfl
 have ci:=zaP X.out 1
 have bA:=D.out
 have bB:=E.out
 have bC:=ab.out
 have bD:=ag.out
 have bE:=ah.out
 have bG:=aa.out
 refine zep (w1:=?_) (by rfl) rfl ?_ ?_
 rotate_left
 ·go_simp
  rfl
 refine hK.out _ _ ⟨((cell_far (p:=⟨B,_,none⟩) D.out _).trans (((cell_far (p:=⟨B,_,none⟩) D.out _).trans (hHeld.1)))),((cell_far (p:=⟨B,_,none⟩) D.out _).trans (((cell_far (p:=⟨B,_,none⟩) D.out _).trans (hHeld.2.1)))),((cell_far (p:=⟨B,_,none⟩) E.out _).trans (((cell_far (p:=⟨B,_,none⟩) E.out _).trans (hHeld.2.2.1)))),((cell_far (p:=⟨B,_,none⟩) E.out _).trans (((cell_far (p:=⟨B,_,none⟩) E.out _).trans (hHeld.2.2.2))))⟩ (fun hHeld=>?_)
 clear hK K
 refine one_ (i:=4) (N:=none) #[true,true,true,true,true,false] rfl rfl (by kernel_rfl) (by decide) (fun K hK=>?_)
 have cy:aG.cell? ⟨O,0,none⟩=some (.string (⟨#[]⟩:ByteArray)):=(zab Z.out 0).trans rfl
 have cj:=zaP Z.out 0
 have bH:=I.out
 have bI:=J.out
 have bJ:=aa.out
 have bK:=ai.out
 have bL:=aj.out
 have bM:=ab.out
 have cz:aG.cell? ⟨O,1,none⟩=some (.int .i64 0):=(zab Z.out 1).trans rfl
 have ck:=zaP Z.out 1
 have bO:=I.out
 have bP:=J.out
 have bQ:=aa.out
 have bR:=ai.out
 have bS:=aj.out
 have bU:=ab.out
 refine zep (w1:=?_) (by rfl) rfl ?_ ?_
 rotate_left
 ·go_simp
  rfl
 refine hK.out _ _ ⟨((cell_far (p:=⟨O,_,none⟩) I.out _).trans (((cell_far (p:=⟨O,_,none⟩) I.out _).trans (hHeld.1)))),((cell_far (p:=⟨O,_,none⟩) I.out _).trans (((cell_far (p:=⟨O,_,none⟩) I.out _).trans (hHeld.2.1)))),((cell_far (p:=⟨O,_,none⟩) J.out _).trans (((cell_far (p:=⟨O,_,none⟩) J.out _).trans (hHeld.2.2.1)))),((cell_far (p:=⟨O,_,none⟩) J.out _).trans (((cell_far (p:=⟨O,_,none⟩) J.out _).trans (hHeld.2.2.2))))⟩ (fun hHeld=>?_)
 clear hK K
 refine zau (i:=5) (N:=some 6) (v:=?_) (a':=?_) #[true,true,true,true,true,true] rfl rfl (by kernel_rfl) (fun _ _ _ h=>h) (Or.inl ⟨by rfl,?_⟩) ?_ ?_
 rotate_left
 ·intro w'
  go_simp
  with_reducible rfl
 rotate_left
 ·simp only[Act.put,List.setIfInBounds_toArray,List.set_cons_zero,List.set_cons_succ,zad,zaf]
  rfl
 refine zbx (by kernel_rfl) ?_
 try go_wp2
 refine bodyPost_ret (zbU (rs:=[.cell 4 42,.cell 5 42,.tmp 6]) rfl (by simp) (.cell B 42 #[.string ak,.int .i64 al] (0,0) _ rfl bk Tryz.underlying42 rfl (by kernel_rfl) (.cell O 42 #[.string ac,.int .i64 ad] (0,0) _ rfl bk Tryz.underlying42 rfl (by kernel_rfl) (.tmp .nil)))) rfl ?_
 exact⟨ez,bz⟩
def zcd.f(B:ByteArray)(A:Int)(a1:Int):Option (Int):=if(wrap64 ((wrap64 (A-1))-a1))<0 then(some 0) else(if(wrap64 ((wrap64 (A-1))-a1))≥(B.size:Int) then(some 0) else(if 0≤(wrap64 ((wrap64 (A-1))-a1)) then(if(wrap64 ((wrap64 (A-1))-a1))<(B.size:Int) then(some (((bt B (wrap64 ((wrap64 (A-1))-a1)))-48)%256)) else(none)) else(none)))
def zb0.f(k:Nat)(B:ByteArray)(D:Int)(E:ByteArray)(I:Int):Option (Int×Int):=(zbG.f k B D E I).bind fun A=>(if A.2.2.2.2=0 then((za4.f k A.1 A.2.1 A.2.2.1 A.2.2.2.1).bind fun J=>(some (J,0))) else(some (0,A.2.2.2.2)))
theorem zb0.calls(k:Nat)(A:ByteArray)(B:Int)(I:ByteArray)(J:Int)(r1:Int)(r2:Int)(w:World)(h:zb0.f k A B I J=some (r1,r2)):
  Calls Tryz.prog 82 #[.agg #[.string A,.int .i64 B],.agg #[.string I,.int .i64 J]] w fun e w'=>e= .returned (.tuple #[.int .i64 r1,.int .i64 r2])∧Below w.heap.size w w':=by
 have aO:=Tryz.underlying42
 have HB:=zaa.mk (Below.refl w.heap.size w)
 have H:((zbG.f k A B I J).bind fun D=>(if D.2.2.2.2=0 then((za4.f k D.1 D.2.1 D.2.2.1 D.2.2.2.1).bind fun ad=>(some (ad,0))) else(some (0,D.2.2.2.2))))=some (r1,r2):=h
 clear h
 replace H:=bs H
 obtain⟨⟨Z,aa,ab,ac,ag⟩,A3,H⟩:=H
 dsimp only at H
 go_enter Tryz.func82,Tryz.ntmps82
 go_upto_if 15 with(first|((with_reducible refine zak (N:=2) rfl ?_);refine zaj rfl (N:=2) rfl (cs:=#[.string A,.int .i64 B]) (t:=42) gz ?_;intro K hg w4 hbox hb;have aI:=gN bz hg;have E:=zaa.mk hbox;replace HB:=bN bz hb;clear hb hbox hg)|((with_reducible refine zak (N:=3) rfl ?_);refine zaj rfl (N:=3) rfl (cs:=#[.string I,.int .i64 J]) (t:=42) gz ?_;intro ae hg w5 hbox hb;have aJ:=gN bz hg;have M:=lN (g:=K) (cs:=#[.string A,.int .i64 B]) hg bk;have O:=rN (g:=K) (cs:=#[.string A,.int .i64 B]) hg bk;replace E:=kN (g:=K) (cs:=#[.string A,.int .i64 B]) hb bk;have U:=zaa.mk hbox;replace HB:=bN bz hb;clear hb hbox hg;have aP:=M.out;have aQ:=O.out;obtain⟨aA,aB,aC,aD⟩:=cz2 (W:=w5) E;obtain⟨aE,aF,aG,aH⟩:=cz2 (W:=w5) U)|((with_reducible refine zac (f:=127) rfl ?_);refine zal (some 10) rfl rfl Tryz.func127 (by kernel_rfl) rfl #[.agg #[.string A,.int .i64 B],.agg #[.string I,.int .i64 J]] rfl lz ?_;(with_reducible refine(zbG.calls k A B I J Z aa ab ac ag _ A3.out).mono ?_);rintro e w9 ⟨rfl,hb⟩;refine⟨_,rfl,?_⟩;replace E:=kN (g:=K) (cs:=#[.string A,.int .i64 B]) hb bk;replace U:=kN (g:=ae) (cs:=#[.string I,.int .i64 J]) hb bk;replace HB:=bN bz hb;(try clear hb);(try clear aK);(try clear hk);(try clear hi);obtain⟨ah,ai,aj,ak⟩:=cz2 (W:=w9) E;obtain⟨al,am,an,ao⟩:=cz2 (W:=w9) U))
 (try simp only[Act.put,List.setIfInBounds_toArray,List.set_cons_zero,List.set_cons_succ])
 by_cases af:ag=0
 ·replace H:=hE H af
  obtain⟨X,Y⟩:=eT af
  clear af
  try first|rw[X]|rw[Y]
  replace H:=bs H
  obtain⟨ad,aL,H⟩:=H
  simp only[Option.some.injEq,Prod.mk.injEq] at H
  obtain⟨rfl,rfl⟩:=H
  have aM:=M.out
  have aN:=O.out
  obtain⟨ap,ar,au,av⟩:=cz2 (W:=w9) E
  obtain⟨aw,ax,ay,az⟩:=cz2 (W:=w9) U
  go_wp2_with (first|((with_reducible refine zac (f:=128) rfl ?_);refine zal (some 19) rfl rfl Tryz.func128 (by kernel_rfl) rfl #[.agg #[.string Z,.int .i64 aa],.agg #[.string ab,.int .i64 ac]] rfl lz ?_;(with_reducible refine(za4.calls k Z aa ab ac ad _ aL.out).mono ?_);rintro e aR ⟨rfl,hb⟩;refine⟨_,rfl,?_⟩;replace E:=kN (g:=K) (cs:=#[.string Z,.int .i64 aa]) hb bk;replace U:=kN (g:=ae) (cs:=#[.string ab,.int .i64 ac]) hb bk;replace HB:=bN bz hb;(try clear hb);(try clear aK);(try clear hk);(try clear hi)))
  go_ret2
  exact⟨ez,bz⟩
 replace H:=hN H af
 obtain⟨X,Y⟩:=eF af
 try first|rw[X]|rw[Y]
 simp only[Option.some.injEq,Prod.mk.injEq] at H
 obtain⟨rfl,rfl⟩:=H
 go_wp2
 go_ret2
 exact⟨ez,bz⟩
end
end Go.Proofs.YtecpgdfnamkfdaaGreatDoor.Fn
end
section
namespace Go.Proofs.YtecpgdfnamkfdaaGreatDoor.Pure
open Go.RowKit Go.Proofs.YtecpgdfnamkfdaaGreatDoorW.PrintWords Go.Proofs.YtecpgdfnamkfdaaGreatDoor.Fn
set_option linter.unusedVariables false
set_option linter.unusedSimpArgs false
def sv(l:List UInt8)(p E:Int):Nat:=val l*10^(p-l.length-E).toNat
def cmpN(a b:Nat):Int:=if a<b then-1 else if b<a then 1 else 0
theorem zfw(a b k:Nat)(hk:0<k):cmpN (a*k) (b*k)=cmpN a b:=by
  unfold cmpN
  by_cases h1:a<b
  · rw[if_pos h1,if_pos (Nat.mul_lt_mul_of_pos_right h1 hk)]
  · rw[if_neg h1,if_neg (fun h=>h1 (Nat.lt_of_mul_lt_mul_right h))]
    by_cases h2:b<a
    · rw[if_pos h2,if_pos (Nat.mul_lt_mul_of_pos_right h2 hk)]
    · rw[if_neg h2,if_neg (fun h=>h2 (Nat.lt_of_mul_lt_mul_right h))]
theorem zhz(x a b:Nat):cmpN (x+a) (x+b)=cmpN a b:=by
  have e1:x+a<x+b↔a<b:=by omega
  have e2:x+b<x+a↔b<a:=by omega
  unfold cmpN
  simp only[e1,e2]
theorem zcw{a b:Nat}(h:a<b):cmpN a b= -1:=if_pos h
theorem zcT{a b:Nat}(h:b<a):cmpN a b=1:=by unfold cmpN;rw[if_neg (by omega),if_pos h]
theorem ze1(a:Nat):cmpN a a=0:=by unfold cmpN;rw[if_neg (by omega),if_neg (by omega)]
theorem zdq(l:List UInt8)(p E:Int)(h:E≤p-l.length)(k:Nat):sv l p (E-k)=sv l p E*10^k:=by
  unfold sv
  have:(p-l.length-(E-k)).toNat=(p-l.length-E).toNat+k:=by omega
  rw[this,Nat.pow_add,Nat.mul_assoc]
theorem zhA{l:List UInt8}{p:Int}(h:InForm l p){E:Int}(hE:E≤p-l.length):decOf (sv l p E) E=(l,p):=by
  have h1:=zcg (val l) (p-l.length-E).toNat (p-l.length)
  have h2:(p-(l.length:Int))-((p-l.length-E).toNat:Int)=E:=by omega
  rw[h2,zcI h] at h1
  exact h1
def cmpD(a:List UInt8)(p:Int)(b:List UInt8)(q:Int):Int:=cmpN (sv a p (min (p-a.length) (q-b.length))) (sv b q (min (p-a.length) (q-b.length)))
theorem zit{a b:List UInt8}{p q E:Int}(h1:E≤p-a.length)(h2:E≤q-b.length):cmpD a p b q=cmpN (sv a p E) (sv b q E):=by
  unfold cmpD
  obtain⟨k,hk⟩: ∃k:Nat,E=min (p-(a.length:Int)) (q-b.length)-k:=⟨(min (p-(a.length:Int)) (q-b.length)-E).toNat,by omega⟩
  rw[hk,zdq a p _ (by omega),zdq b q _ (by omega),zfw _ _ _ (Nat.pow_pos (by omega))]
theorem zdr{l:List UInt8}(h:AllD l){p E:Int}(hE:E≤p-l.length):sv l p E<10^(p-E).toNat:=by
  unfold sv
  have h1:=zcf h
  have h2:(p-E).toNat=l.length+(p-l.length-E).toNat:=by omega
  rw[h2,Nat.pow_add]
  exact Nat.mul_lt_mul_of_pos_right h1 (Nat.pow_pos (by omega))
theorem zgJ{l:List UInt8}(h:AllD l)(h0:zcr l)(hn:l≠[]):10^(l.length-1)≤val l:=by
  cases l with
  |nil=>exact absurd rfl hn
  |cons c t=>
    rw[zbH,List.length_cons]
    have h1:=h.cons.1
    have h2:=h0 c t rfl
    have:1*10^t.length≤dig c*10^t.length:=Nat.mul_le_mul_right _ (by unfold dig;omega)
    simp only[Nat.add_sub_cancel]
    omega
theorem zfi{l:List UInt8}(h:AllD l)(h0:zcr l)(hn:l≠[]){p E:Int}(hE:E≤p-l.length):10^(p-1-E).toNat≤sv l p E:=by
  unfold sv
  have h1:=zgJ h h0 hn
  have hl:0<l.length:=List.length_pos_iff.2 hn
  have h2:(p-1-E).toNat=(l.length-1)+(p-l.length-E).toNat:=by omega
  rw[h2,Nat.pow_add]
  exact Nat.mul_le_mul_right _ h1
theorem zeH{l:List UInt8}(h:AllD l)(hr:rz l=l)(hn:l≠[]):val l≠0:=by
  rcases List.eq_nil_or_concat l with rfl|⟨t,c,rfl⟩
  · exact absurd rfl hn
  · rw[List.concat_eq_append] at*
    have hc:c.toNat≠48:=by
      intro e
      rw[zcs e] at hr
      have:=zcl t
      rw[hr] at this
      simp at this
      omega
    rw[zbI]
    have:=h.last
    unfold dig
    omega
theorem zdX{c:UInt8}{t:List UInt8}(h:rz (c::t)=c::t):rz t=t:=by
  rcases List.eq_nil_or_concat t with rfl|⟨u,d,rfl⟩
  · rfl
  · rw[List.concat_eq_append] at*
    by_cases e:d.toNat=48
    · rw[←List.cons_append,zcs e] at h
      have:=zcl (c::u)
      rw[h] at this
      simp at this
      omega
    · exact zcP e
theorem zf0: ∀(a b:List UInt8) (K:Nat),AllD a→AllD b→rz a=a→rz b=b→a.length≤K→b.length≤K→Lib.compareBytes a b=cmpN (val a*10^(K-a.length)) (val b*10^(K-b.length))
  |[],[],K,_,_,_,_,_,_=>by simp[Lib.compareBytes,zbl,cmpN]
  |[],d::u,K,_,hb,_,hrb,_,_=>by
    rw[zbl,Nat.zero_mul,zcw (Nat.mul_pos (Nat.pos_of_ne_zero (zeH hb hrb (by simp))) (Nat.pow_pos (by omega)))]
    rfl
  |c::t,[],K,ha,_,hra,_,_,_=>by
    rw[zbl,Nat.zero_mul,zcT (Nat.mul_pos (Nat.pos_of_ne_zero (zeH ha hra (by simp))) (Nat.pow_pos (by omega)))]
    rfl
  |c::t,d::u,K,ha,hb,hra,hrb,hka,hkb=>by
    simp only[List.length_cons] at hka hkb
    have hc:=ha.cons.1
    have hd:=hb.cons.1
    have h1:=zcf ha.cons.2
    have h2:=zcf hb.cons.2
    have ea:val (c::t)*10^(K-(t.length+1))=dig c*10^(K-1)+val t*10^(K-1-t.length):=by
      rw[zbH,Nat.add_mul,Nat.mul_assoc,←Nat.pow_add]
      have e1:t.length+(K-(t.length+1))=K-1:=by omega
      have e2:K-(t.length+1)=K-1-t.length:=by omega
      rw[e1,e2]
    have eb:val (d::u)*10^(K-(u.length+1))=dig d*10^(K-1)+val u*10^(K-1-u.length):=by
      rw[zbH,Nat.add_mul,Nat.mul_assoc,←Nat.pow_add]
      have e1:u.length+(K-(u.length+1))=K-1:=by omega
      have e2:K-(u.length+1)=K-1-u.length:=by omega
      rw[e1,e2]
    have la:val t*10^(K-1-t.length)<10^(K-1):=by
      have:10^t.length*10^(K-1-t.length)=10^(K-1):=by rw[←Nat.pow_add];congr 1;omega
      rw[←this]
      exact Nat.mul_lt_mul_of_pos_right h1 (Nat.pow_pos (by omega))
    have lb:val u*10^(K-1-u.length)<10^(K-1):=by
      have:10^u.length*10^(K-1-u.length)=10^(K-1):=by rw[←Nat.pow_add];congr 1;omega
      rw[←this]
      exact Nat.mul_lt_mul_of_pos_right h2 (Nat.pow_pos (by omega))
    have less: ∀x y r s M:Nat,x<y→r<M→x*M+r<y*M+s:=by
      intro x y r s M hxy hr
      have:(x+1)*M≤y*M:=Nat.mul_le_mul_right _ hxy
      rw[Nat.add_mul] at this
      omega
    rw[List.length_cons,List.length_cons,ea,eb]
    unfold Lib.compareBytes
    have hlt: ∀x y:UInt8,(48≤x.toNat∧x.toNat≤57)→(48≤y.toNat∧y.toNat≤57)→(x<y↔dig x<dig y):=by
      intro x y hx hy
      rw[UInt8.lt_iff_toNat_lt]
      unfold dig
      omega
    by_cases e1:c<d
    · rw[if_pos e1,zcw (less _ _ _ _ _ ((hlt c d hc hd).1 e1) la)]
    · rw[if_neg e1]
      by_cases e2:d<c
      · rw[if_pos e2,zcT (less _ _ _ _ _ ((hlt d c hd hc).1 e2) lb)]
      · rw[if_neg e2]
        have e3:dig c=dig d:=by
          have h3:=mt (hlt c d hc hd).2 e1
          have h4:=mt (hlt d c hd hc).2 e2
          omega
        rw[zf0 t u (K-1) ha.cons.2 hb.cons.2 (zdX hra) (zdX hrb) (by omega) (by omega),e3,zhz]
theorem cmp_eq{a b:List UInt8}{p q:Int}(ha:InForm a p)(hb:InForm b q):Ev (fun k=>za4.f k (S a) p (S b) q) (cmpD a p b q):=by
  obtain⟨A,D,M,U⟩:=ha
  obtain⟨B,I,O,X⟩:=hb
  have J:min (p-(a.length:Int)) (q-b.length)≤p-a.length:=by omega
  have K:min (p-(a.length:Int)) (q-b.length)≤q-b.length:=by omega
  have empt: ∀(z:Int),(a=[]∨b=[])→Lib.compareBytes a b=cmpD a p b q:=by
    intro _ h
    unfold cmpD
    by_cases h1:a=[]
    · by_cases h2:b=[]
      · subst h1;subst h2;rw[cmpN];simp[sv,zbl,Lib.compareBytes]
      · subst h1
        rw[zcw]
        · cases b with
          |nil=>exact absurd rfl h2
          |cons d u=>rfl
        · have h3:0<sv b q (min (p-(([]:List UInt8).length:Int)) (q-b.length)):=Nat.mul_pos (Nat.pos_of_ne_zero (zcS B I h2)) (Nat.pow_pos (by omega))
          simpa [sv,zbl] using h3
    · have h2:b=[]:=by rcases h with h|h;exact absurd h h1;exact h
      subst h2
      rw[zcT]
      · cases a with
        |nil=>exact absurd rfl h1
        |cons d u=>rfl
      · have h3:0<sv a p (min (p-(a.length:Int)) (q-(([]:List UInt8).length:Int))):=Nat.mul_pos (Nat.pos_of_ne_zero (zcS A D h1)) (Nat.pow_pos (by omega))
        simpa [sv,zbl] using h3
  have hcmp:strings_Compare.f (S a) (S b)=some (Lib.compareBytes a b):=rfl
  unfold za4.f
  rw[zby,L_S,zby,L_S]
  by_cases h1:a=[]
  · refine Ev.congr (f:=fun k=>za4.j0 k true (S a) p (S b) q) (fun k=>by rw[if_pos h1]) (Ev.step (f:=fun _=>some (cmpD a p b q)) (fun k=>?_) (Ev.now _))
    simp only[za4.j0]
    rw[if_pos trivial,hcmp,Option.bind_some,empt 0 (.inl h1)]
  · by_cases h2:b=[]
    · refine Ev.congr (f:=fun k=>za4.j0 k true (S a) p (S b) q) (fun k=>by rw[if_neg h1,h2];rfl) (Ev.step (f:=fun _=>some (cmpD a p b q)) (fun k=>?_) (Ev.now _))
      simp only[za4.j0]
      rw[if_pos trivial,hcmp,Option.bind_some,empt 0 (.inr h2)]
    · refine Ev.congr (f:=fun k=>za4.j0 k false (S a) p (S b) q) (fun k=>by rw[if_neg h1];congr 1;simpa using h2) (Ev.step (f:=fun _=>some (cmpD a p b q)) (fun k=>?_) (Ev.now _))
      simp only[za4.j0]
      rw[if_neg (by simp)]
      have hal:0<a.length:=List.length_pos_iff.2 h1
      have hbl:0<b.length:=List.length_pos_iff.2 h2
      have la:=zdr A J
      have lb:=zdr B K
      have ga:=zfi A D h1 J
      have gb:=zfi B I h2 K
      generalize hE:min (p-(a.length:Int)) (q-b.length)=E at*
      by_cases h3:p<q
      · rw[if_pos h3]
        unfold cmpD
        rw[hE,zcw]
        have:10^(p-E).toNat≤10^(q-1-E).toNat:=Nat.pow_le_pow_right (by omega) (by omega)
        omega
      · rw[if_neg h3]
        by_cases h4:p>q
        · rw[if_pos h4]
          unfold cmpD
          rw[hE,zcT]
          have:10^(q-E).toNat≤10^(p-1-E).toNat:=Nat.pow_le_pow_right (by omega) (by omega)
          omega
        · rw[if_neg h4,hcmp,Option.bind_some]
          have e:p=q:=by omega
          subst e
          rw[zf0 a b (p-E).toNat A B M O (by omega) (by omega)]
          unfold cmpD sv
          rw[hE]
          have e1:(p-E).toNat-a.length=(p-(a.length:Int)-E).toNat:=by omega
          have e2:(p-E).toNat-b.length=(p-(b.length:Int)-E).toNat:=by omega
          rw[e1,e2]
theorem zbR(s:ByteArray)(p:Int):(∃e:Int,normS s p=(⟨#[]⟩,0,e)∧e≠0∧(e=2∨e=4))∨ ∃l q,normS s p=(S l,q,0)∧InForm l q∧l.length≤2000∧ -7000≤q∧q≤5000∧AllD (L s)∧(l,q)=decOf (val (L s)) (p-(L s).length):=by
  unfold normS
  by_cases h:s.size>2000
  · rw[if_pos h];exact .inl ⟨2,rfl,by omega,.inl rfl⟩
  · rw[if_neg h]
    unfold normTail
    by_cases h1:(L s).all isD=true
    · rw[if_pos h1]
      by_cases h2:p< -5000
      · rw[if_pos h2];exact .inl ⟨2,rfl,by omega,.inl rfl⟩
      · rw[if_neg h2]
        by_cases h3:p>5000
        · rw[if_pos h3];exact .inl ⟨2,rfl,by omega,.inl rfl⟩
        · rw[if_neg h3]
          have hall:AllD (L s):=fun c hc=>(zdW c).1 (List.all_eq_true.1 h1 c hc)
          have hf:=zci hall p
          have hin:=zbr (val (L s)) (p-(L s).length)
          rw[←hf] at hin
          have hl:=zeZ (L s)
          have A:=zcl (dz (L s))
          rw[←zb6] at hl
          refine .inr ⟨(formL (L s) p).1,(formL (L s) p).2,rfl,hin,?_,?_,?_,hall,by rw[←hf]⟩
          · unfold formL;split
            · simp
            · show(rz (dz (L s))).length≤2000
              omega
          · unfold formL;split
            · show(-7000:Int)≤0
              omega
            · show(-7000:Int)≤p-_
              rw[←zb6]
              omega
          · unfold formL;split
            · show(0:Int)≤5000
              omega
            · show p-_≤(5000:Int)
              rw[←zb6]
              omega
    · rw[if_neg h1];exact .inl ⟨4,rfl,by omega,.inr rfl⟩
def cmpS(s:ByteArray)(p:Int)(t:ByteArray)(q:Int):Int×Int:=
  if(normS s p).2.2=0 then(if(normS t q).2.2=0 then(cmpD (L (normS s p).1) (normS s p).2.1 (L (normS t q).1) (normS t q).2.1,0) else(0,(normS t q).2.2)) else(0,(normS s p).2.2)
theorem zgK(s:ByteArray)(p:Int)(t:ByteArray)(q:Int):Ev (fun k=>zbG.f k s p t q) (if(normS s p).2.2=0 then((normS s p).1,(normS s p).2.1,(normS t q).1,(normS t q).2.1,(normS t q).2.2) else((normS s p).1,(normS s p).2.1,t,q,(normS s p).2.2)):=by
  unfold zbG.f
  refine Ev.bind (zcv s p) ?_
  by_cases h:(normS s p).2.2=0
  · rw[if_pos h]
    exact Ev.congr (fun k=>by rw[if_pos h]) (Ev.bind (f:=fun _ bt=>some ((normS s p).1,(normS s p).2.1,bt.1,bt.2.1,bt.2.2)) (zcv t q) (Ev.now _))
  · rw[if_neg h]
    exact Ev.congr (fun k=>by rw[if_neg h]) (Ev.now _)
theorem ziu(s:ByteArray)(p:Int)(t:ByteArray)(q:Int):Ev (fun k=>zb0.f k s p t q) (cmpS s p t q):=by
  unfold zb0.f cmpS
  refine Ev.bind (zgK s p t q) ?_
  rcases zbR s p with⟨e,h1,h2,_⟩|⟨l,u,h1,A,_⟩
  · rw[h1,if_neg h2,if_neg h2]
    exact Ev.congr (fun k=>by rw[if_neg h2]) (Ev.now _)
  · rw[h1,if_pos rfl,if_pos rfl]
    rcases zbR t q with⟨e,h3,h4,_⟩|⟨m,v,h3,B,_⟩
    · rw[h3,if_neg h4]
      exact Ev.congr (fun k=>by rw[if_neg h4]) (Ev.now _)
    · rw[h3,if_pos rfl]
      refine Ev.congr (fun k=>by rw[if_pos rfl]) (Ev.bind (f:=fun _ x=>some (x,(0:Int))) (cmp_eq A B) (Ev.now _))
theorem ze2{l:List UInt8}(h:AllD l)(i:Nat)(hi:i<l.length):val l / 10^(l.length-1-i)%10=dig l[i]:=by
  have e:l=l.take (i+1)++l.drop (i+1):=(List.take_append_drop _ _).symm
  have e2:l.take (i+1)=l.take i++[l[i]]:=List.take_succ_eq_append_getElem hi
  have hv:val l=(10*val (l.take i)+dig l[i])*10^(l.length-1-i)+val (l.drop (i+1)):=by
    have hl:(l.drop (i+1)).length=l.length-1-i:=by rw[List.length_drop];omega
    rw[←hl,←zbI,←e2,←val_append,←e]
  have hlt:val (l.drop (i+1))<10^(l.length-1-i):=by
    have:=zcf (h.drop (i+1))
    rw[List.length_drop] at this
    have e3:l.length-(i+1)=l.length-1-i:=by omega
    rw[e3] at this
    exact this
  have hd:dig l[i]<10:=by have:=h l[i] (List.getElem_mem hi);unfold dig;omega
  rw[hv,Nat.mul_comm,Nat.mul_add_div (Nat.pow_pos (by omega)),Nat.div_eq_of_lt hlt]
  omega
theorem digit_eq{l:List UInt8}{p E x:Int}(h:AllD l)(hE:E≤p-l.length)(hx:E≤x)(hb:l.length≤100000∧ -100000≤p∧p≤100000∧ -100000≤x∧x≤100000):
    zcd.f (S l) p x=some ((sv l p E / 10^(x-E).toNat%10:Nat):Int):=by
  unfold zcd.f
  have hw:wrap64 (wrap64 (p-1)-x)=p-1-x:=by rw[zaX (x:=p-1) (by omega) (by omega),zaX (by omega) (by omega)]
  rw[hw,zaE]
  by_cases h1:p-1-x<0
  · rw[if_pos h1]
    have hlt:=zdr h hE
    have:10^(p-E).toNat≤10^(x-E).toNat:=Nat.pow_le_pow_right (by omega) (by omega)
    rw[Nat.div_eq_of_lt (by omega)]
    rfl
  · rw[if_neg h1]
    by_cases h2:p-1-x≥(l.length:Int)
    · rw[if_pos h2]
      unfold sv
      have e:(p-l.length-E).toNat=(p-l.length-x).toNat+(x-E).toNat:=by omega
      rw[e,Nat.pow_add,←Nat.mul_assoc,Nat.mul_div_cancel _ (Nat.pow_pos (by omega))]
      obtain⟨j,hj⟩: ∃j,(p-l.length-x).toNat=j+1:=⟨(p-l.length-x).toNat-1,by omega⟩
      rw[hj,Nat.pow_succ,←Nat.mul_assoc,Nat.mul_mod_left]
      rfl
    · obtain⟨i,hi⟩: ∃i:Nat,p-1-x=(i:Int):=⟨(p-1-x).toNat,by omega⟩
      have hil:i<l.length:=by omega
      rw[if_neg h2,hi,if_pos (by omega),if_pos (by omega),bt_L (S l) i (by rw[zaE];exact hil)]
      simp only[L_S]
      have hd:=h l[i] (List.getElem_mem hil)
      have hv:=ze2 h i hil
      have e:sv l p E / 10^(x-E).toNat=val l / 10^(l.length-1-i):=by
        unfold sv
        have e1:(x-E).toNat=(l.length-1-i)+(p-l.length-E).toNat:=by omega
        rw[e1,Nat.pow_add,Nat.mul_comm (10^(l.length-1-i)),←Nat.div_div_eq_div_mul,Nat.mul_div_cancel _ (Nat.pow_pos (by omega))]
      rw[e,hv]
      unfold dig at*
      congr 1
      omega
theorem zfg{b:List UInt8}{q:Int}(hb:InForm b q)(hn:b≠[])(p:Int):cmpD [] p b q= -1:=by
  unfold cmpD
  have h3:0<sv b q (min (p-(([]:List UInt8).length:Int)) (q-b.length)):=Nat.mul_pos (Nat.pos_of_ne_zero (zcS hb.1 hb.2.1 hn)) (Nat.pow_pos (by omega))
  rw[zcw]
  simpa [sv,zbl] using h3
theorem zeI{a:List UInt8}{p:Int}(ha:InForm a p)(hn:a≠[])(q:Int):cmpD a p [] q=1:=by
  unfold cmpD
  have h3:0<sv a p (min (p-(a.length:Int)) (q-(([]:List UInt8).length:Int))):=Nat.mul_pos (Nat.pos_of_ne_zero (zcS ha.1 ha.2.1 hn)) (Nat.pow_pos (by omega))
  rw[zcT]
  simpa [sv,zbl] using h3
end Go.Proofs.YtecpgdfnamkfdaaGreatDoor.Pure
end
section
namespace Go.Proofs.YtecpgdfnamkfdaaGreatDoor.Fn
open Go.RowKit Go.Proofs.YtecpgdfnamkfdaaGreatDoorW.PrintWords Go.Proofs.YtecpgdfnamkfdaaGreatDoorW.PrintLast Go.Proofs.YtecpgdfnamkfdaaGreatDoorW.PrintMore
attribute [local go_sem] fnW_0 fnW_1 fnW_2 fnW_3 fnW_4 fnW_5 fnW_guard fnW_eql zaK zaL zaQ zaR
set_option linter.unusedVariables false
set_option linter.unusedSimpArgs false
mutual
def zaN.l0:Nat→List Int→Int→Int→Int→Int→Option (List Int)
 |0,_,_,_,_,_=>none
 |k+1,x0,x1,x5,x9,A=>if A<x9 then(if 0≤A then(if A<(x0.length:Int) then(zaN.l0 k (x0.set (A:Int).toNat (Int.tmod (IntKind.u64.wrap ((IntKind.u64.wrap ((rd x0 A)*x1))+x5)) 1000000000)) x1 (IntKind.u64.wrap (Int.tdiv (IntKind.u64.wrap ((IntKind.u64.wrap ((rd x0 A)*x1))+x5)) 1000000000)) x9 (wrap64 (A+1))) else(none)) else(none)) else(zaN.l1 k x0 x5)
def zaN.l1:Nat→List Int→Int→Option (List Int)
 |0,_,_=>none
 |k+1,x0,x5=>if x5>0 then(if x0.length<17592186044416 then(zaN.l1 k (x0++[Int.tmod x5 1000000000]) (IntKind.u64.wrap (Int.tdiv x5 1000000000))) else(none)) else(some x0)
end
def zaN.f(k:Nat)(l0:List Int)(a1:Int):Option (List Int):=zaN.l0 k l0 a1 0 (l0.length:Int) 0
set_option maxHeartbeats 8000000 in
set_option maxRecDepth 100000 in
theorem zaN.calls(k:Nat)(J:Nat→Prop)(X:Value)(l0:List Int)(a1:Int)(r:List Int)(w0 w:World)(hB:Below w0.heap.size w0 w)(aK:Kd.R (Kd.int .u64) 22 w w0.heap.size J X l0)(h:zaN.f k l0 a1=some r):
  Calls Tryz.prog 47 #[X,.int .u64 a1] w fun e w'=> ∃ay:Value,e= .returned (ay)∧Kd.R (Kd.int .u64) 22 w' w0.heap.size (fun k_=>(J k_∨w.heap.size≤k_)) ay r∧Below w0.heap.size w0 w'∧Kept w w' (fun k_=>J k_):=by
 have az:=zaa.mk (show Kd.R (Kd.int .u64) 22 w w0.heap.size (fun k_=>(J k_∨w.heap.size≤k_)) X l0 from Kd.R_mono aK (fun k_ hk=>(.inl hk)))
 have HK:=zaa.mk (Kept.refl w (fun k_=>J k_))
 have aY:=zaa.mk hB.size
 have HB:=zaa.mk hB
 clear hB
 have H:(zaN.l0 k l0 a1 0 (l0.length:Int) 0)=some r:=h
 clear h
 have H':=zaa.mk H
 clear H
 obtain⟨aM,aA,aN⟩:=Kd.R_slice az.out
 subst aN
 go_enter Tryz.func47,Tryz.ntmps47
 go_wp2
 go_loopg [5,10] k (fun kq v5 aQ w'=> ∃(D:List Int) (K:Int) (A:Int),v5= .int .u64 K∧aQ= .int .i64 A∧zaa (zaN.l0 kq D a1 K (l0.length:Int) A=some r)∧zaa (kq≤k)∧zaa (Kd.R (Kd.int .u64) 22 w' w0.heap.size (fun k_=>(J k_∨w.heap.size≤k_)) (.slice aM l0.length aA) D)∧zaa (Kept w w' (fun k_=>J k_))∧zaa (Below w0.heap.size w0 w'))
 case atStart=>exact⟨(l0),(0),(0),rz,rz,H',⟨Nat.le_refl _⟩,⟨by(with_reducible repeat(first|apply Kd.R_alloc|apply Kd.R_drewN|apply Kd.R_drew));exact az.out⟩,⟨by repeat(first|(with_reducible first|exact HK.out|apply Kept.alloc|apply Kept.drewN|apply Kept.drew)|exact HK.out)⟩,⟨bz⟩⟩
 case round=>
  clear H'
  obtain⟨D,K,A,rfl,rfl,HA,ak,B,HK,HB⟩:=hrel
  have E:=(Kd.R_reads' B.out).1
  rw[E] at B
  (try simp only[E])
  cases gk with
  |zero=>exact absurd HA.out (by simp[zaN.l0])
  |succ k1=>
   have H:=HA.out
   clear HA
   simp only[zaN.l0] at H
   by_cases c4:A<(l0.length:Int)
   ·replace H:=hE H c4
    have aa:=decide_eq_true c4
    (try(have ae:=aa;(first|rw[E] at ae);skip))
    clear c4
    by_cases c5:0≤A
    ·replace H:=hE H c5
     have aC:=decide_eq_true c5
     clear c5
     by_cases c6:A<(D.length:Int)
     ·replace H:=hE H c6
      have am:=decide_eq_true c6
      (try(have aD:=am;(first|rw[E] at aD);skip))
      clear c6
      obtain⟨af,M⟩: ∃y_:List Int,y_=(D.set (A:Int).toNat (Int.tmod (IntKind.u64.wrap ((IntKind.u64.wrap ((rd D A)*a1))+K)) 1000000000)):=⟨_,rfl⟩
      replace H:(zaN.l0 k1 af a1 (IntKind.u64.wrap (Int.tdiv (IntKind.u64.wrap ((IntKind.u64.wrap ((rd D A)*a1))+K)) 1000000000)) (l0.length:Int) (wrap64 (A+1)))=some r:=by first|(rw[M];with_reducible exact H)|(have Z:=(Option.bind_some _ _).symm.trans H;rw[M];with_reducible exact Z)|(have Z:=(Option.bind_some _ _).symm.trans H;with_reducible exact Z)|with_reducible exact H|(rw[M];exact H)|exact H
      have ao:=zaa.mk M
      clear M
      have H':=zaa.mk H
      clear H
      have ab:0≤(A:Int):=of_decide_eq_true (by first|(with_reducible assumption)|assumption)
      have ac:A<(D.length:Int):=of_decide_eq_true (by first|(with_reducible assumption)|assumption)
      obtain⟨aR,aE,Y⟩:=Kd.at_int (Kd.R_reads' B.out).2.2 A ab ac
      cases aE
      replace ab:=eq_true ab
      replace ac:=eq_true ac
      have p7:0≤(A:Int):=of_decide_eq_true (by first|(with_reducible assumption)|assumption)
      have q7:(A:Int)<((D.length:Int):Int):=of_decide_eq_true (by first|(with_reducible assumption)|assumption)
      obtain⟨ag,aZ,aG,aH,aT,a2,aI⟩:=Kd.R_form B.out (by omega)
      (first|cases aG|(injection aG with ea_ en_ ec_;(first|subst ea_|(injection ea_ with ea_;subst ea_));subst ec_;clear en_))
      have aU:=zaa.mk aH
      have a3:=zaa.mk aI
      clear aH aT aI
      have aV:=zaa.mk (show(J ag∨w.heap.size≤ag) from(B.out.1 _ rfl))
      (first|simp only[add_plain] at Y|skip)
      obtain⟨ap,aW⟩:=Kd.R_celln 0 B.out (A:Int) p7 q7
      replace p7:=eq_true p7
      replace q7:=eq_true q7
      have ar:=Kd.R_putg B.out (A:Int) (Int.tmod (IntKind.u64.wrap ((IntKind.u64.wrap ((rd D A)*a1))+K)) 1000000000)
      go_wp2_with (first|((with_reducible refine zcp (t:=22) (p:=26) rfl ?_);refine zce (t:=22) (p:=26) (v:=?vo_w9) (w1:=(wr.setCell ⟨ag,(A:Int).toNat,none⟩ (.int .u64 (Int.tmod (IntKind.u64.wrap ((IntKind.u64.wrap ((rd D A)*a1))+K)) 1000000000)))) ?hg ?ho ?hn ?hr ?_;(case ho=>rfl);(case hg=>rfl);(case hn=>rfl);(case hr=>first|(go_simp;done)|(go_simp;rfl));intro w9 hw;have hg:wr.grownBy w9 (some ag):=(by rw[hw];exact ar.2);have hp_:Kd.R (Kd.int .u64) 22 w9 w0.heap.size (fun k_=>(J k_∨w.heap.size≤k_)) (.slice (some ⟨ag,0,none⟩) D.length aA) af:=(by rw[hw,ao.out];exact ar.1);clear ar;have ah:=zaa.mk (hp_);have ai:=zaa.mk ((by rw[hw];exact zbL (HB.out) aU.out:Below w0.heap.size w0 w9));have aj:=zaa.mk (Kept.of_grown (S:=(fun k_=>J k_)) hg (by repeat(first|(with_reducible first|exact HK.out|apply Kept.alloc|apply Kept.drewN|apply Kept.drew)|exact HK.out)) (fun k_ e_=>(B.out.1 k_ e_)));clear B;clear HB;clear HK;have B:=ah;have HB:=ai;have HK:=aj;clear ah ai aj;clear hg hw hp_))
      (try simp only[←E])
      go_roundg k1
      case measure=>have:=ak.out;omega
      case rel=>exact⟨(af),(IntKind.u64.wrap (Int.tdiv (IntKind.u64.wrap ((IntKind.u64.wrap ((rd D A)*a1))+K)) 1000000000)),(wrap64 (A+1)),rz,rz,H',⟨by have:=ak.out;omega⟩,⟨by(try simp only[E]);(with_reducible repeat(first|apply Kd.R_alloc|apply Kd.R_drewN|apply Kd.R_drew));exact B.out⟩,⟨by repeat(first|(with_reducible first|exact HK.out|apply Kept.alloc|apply Kept.drewN|apply Kept.drew)|exact HK.out)⟩,⟨bz⟩⟩
     replace H:=hN H c6
     exact absurd H (by simp)
    replace H:=hN H c5
    exact absurd H (by simp)
   replace H:=hN H c4
   have aa:=decide_eq_false c4
   (try(have ae:=aa;(first|rw[E] at ae);skip))
   clear c4
   have H':=zaa.mk H
   clear H
   go_wp2
   go_loopg [0,5] k1 (fun kq v0 v5 w'=> ∃(U:List Int) (I:Int),v5= .int .u64 I∧zaa (zaN.l1 kq U I=some r)∧zaa (kq≤k1)∧zaa (Kd.R (Kd.int .u64) 22 w' w0.heap.size (fun k_=>(J k_∨w.heap.size≤k_)) v0 U)∧zaa (Kept w w' (fun k_=>J k_))∧zaa (Below w0.heap.size w0 w'))
   case atStart=>exact⟨(D),(K),rz,H',⟨Nat.le_refl _⟩,⟨by(try simp only[E]);(with_reducible repeat(first|apply Kd.R_alloc|apply Kd.R_drewN|apply Kd.R_drew));exact B.out⟩,⟨by repeat(first|(with_reducible first|exact HK.out|apply Kept.alloc|apply Kept.drewN|apply Kept.drew)|exact HK.out)⟩,⟨bz⟩⟩
   case round=>
    clear H'
    try clear c4
    try clear aa
    try clear c5
    try clear aC
    try clear c6
    try clear am
    try clear p7
    try clear q7
    try clear Y
    try clear ap
    try clear ab
    try clear p7
    try clear ac
    try clear q7
    obtain⟨U,I,rfl,HA,aJ,B,HK,HB⟩:=hrel
    cases gk with
    |zero=>exact absurd HA.out (by simp[zaN.l1])
    |succ k2=>
     have H:=HA.out
     clear HA
     simp only[zaN.l1] at H
     by_cases ad:I>0
     ·replace H:=hE H ad
      have au:decide (0<I)=true:=decide_eq_true ad
      clear ad
      by_cases al:U.length<17592186044416
      ·replace H:=hE H al
       have av:=zaa.mk al
       clear al
       obtain⟨an,O⟩: ∃y_:List Int,y_=(U++[Int.tmod I 1000000000]):=⟨_,rfl⟩
       replace H:(zaN.l1 k2 an (IntKind.u64.wrap (Int.tdiv I 1000000000)))=some r:=by first|(rw[O];with_reducible exact H)|(have Z:=(Option.bind_some _ _).symm.trans H;rw[O];with_reducible exact Z)|(have Z:=(Option.bind_some _ _).symm.trans H;with_reducible exact Z)|with_reducible exact H|(rw[O];exact H)|exact H
       have aw:=zaa.mk O
       clear O
       have H':=zaa.mk H
       clear H
       go_wp2_with (first|((with_reducible refine zdI (b:=.append) (xs:=#[.tmp 30,.tmp 33]) rfl ?_);at_builtin;refine Kd.R_append (Kd.int .u64) (w0:=w0) w0.heap.size rfl (.tmp 30) (.tmp 33) 77 22 (.int .u64 0) 8 rfl Tryz.underlying77 zgF rfl (by decide) (by omega) u0 U (Int.tmod I 1000000000) [.int .u64 (Int.tmod I 1000000000)] (fun k_=>(J k_∨w.heap.size≤k_)) (fun _=>False) rfl rfl ?aP (fun _ hk=>hk.elim) ?aF ?aO ?aB ?aS ?aL ?_;(case aP=>exact rfl);(case aB=>exact bz);(case aF=>exact(fun k_ hk=>(.inr (Nat.le_trans (by first|exact HK.out.1|exact(show Kept w _ (fun k_=>J k_) from by repeat(first|(with_reducible first|exact HK.out|apply Kept.alloc|apply Kept.drewN|apply Kept.drew)|exact HK.out)).1) hk))));(case aO=>exact(by(with_reducible repeat(first|apply Kd.R_alloc|apply Kd.R_drewN|apply Kd.R_drew));exact B.out));(case aS=>exact(zaI bz));(case aL=>have:=av.out;omega);intro aX a4 ho hb hg hat;rw[←aw.out] at ho;have ah:=zaa.mk (hb);have ai:=zaa.mk (Kept.of_grown (S:=(fun k_=>J k_)) hg (by repeat(first|(with_reducible first|exact HK.out|apply Kept.alloc|apply Kept.drewN|apply Kept.drew)|exact HK.out)) (fun k_ e_=>(B.out.1 k_ e_)));have aj:=zaa.mk (ho);clear HB;clear HK;clear B;have HB:=ah;have HK:=ai;have ax:=aj;clear ah ai aj;clear ho hb hg hat))
       go_roundg k2
       case measure=>have:=ak.out;have:=aJ.out;omega
       case rel=>exact⟨(an),(IntKind.u64.wrap (Int.tdiv I 1000000000)),rz,H',⟨by have:=ak.out;have:=aJ.out;omega⟩,⟨by(try simp only[E]);(with_reducible repeat(first|apply Kd.R_alloc|apply Kd.R_drewN|apply Kd.R_drew));exact ax.out⟩,⟨by repeat(first|(with_reducible first|exact HK.out|apply Kept.alloc|apply Kept.drewN|apply Kept.drew)|exact HK.out)⟩,⟨bz⟩⟩
      replace H:=hN H al
      exact absurd H (by simp)
     replace H:=hN H ad
     have au:decide (0<I)=false:=decide_eq_false ad
     clear ad
     obtain rfl:=Option.some.inj H
     go_wp2
     go_ret
     exact⟨_,by first|rfl|(simp[zan,zao]<;>rfl)|(simp[*,zan,zao]<;>rfl),by(with_reducible repeat(first|apply Kd.R_alloc|apply Kd.R_drewN|apply Kd.R_drew));exact B.out,bz,by repeat(first|(with_reducible first|exact HK.out|apply Kept.alloc|apply Kept.drewN|apply Kept.drew)|exact HK.out)⟩
end Go.Proofs.YtecpgdfnamkfdaaGreatDoor.Fn
end
section
namespace Go.Proofs.YtecpgdfnamkfdaaGreatDoor.Fn
open Go.RowKit Go.Proofs.YtecpgdfnamkfdaaGreatDoorW.PrintWords Go.Proofs.YtecpgdfnamkfdaaGreatDoorW.PrintLast Go.Proofs.YtecpgdfnamkfdaaGreatDoorW.PrintMore
set_option linter.unusedVariables false
set_option linter.unusedSimpArgs false
set_option maxHeartbeats 8000000
set_option maxRecDepth 100000
section
attribute [local go_sem] fnW_0 fnW_1 fnW_2 fnW_3 fnW_4 fnW_5 fnW_guard fnW_eql zaK zaL zaQ zaR
def zaD.l0:Nat→List Int→Int→Option (List Int)
 |0,_,_=>none
 |k+1,x0,x3=>if(x0.length:Int)>0 then(if 0≤(wrap64 ((x0.length:Int)-1)) then(if(wrap64 ((x0.length:Int)-1))<(x0.length:Int) then(if(rd x0 (wrap64 ((x0.length:Int)-1)))=x3 then(if(wrap64 ((x0.length:Int)-1))≤(x0.length:Int) then(zaD.l0 k (x0.take ((wrap64 ((x0.length:Int)-1)):Int).toNat) x3) else(none)) else(some x0)) else(none)) else(none)) else(some x0)
def zaD.f(k:Nat)(l0:List Int):Option (List Int):=zaD.l0 k l0 0
theorem zaD.calls(k:Nat)(ad:Nat→Prop)(A0:Option Addr)(c0:Nat)(l0:List Int)(r:List Int)(w:World)(aw:Kd.V (Kd.int .u64) 22 w w.heap.size (fun k_=>ad k_) (.slice A0 l0.length c0) l0)(h:zaD.f k l0=some r):
  Calls Tryz.prog 78 #[.slice A0 l0.length c0] w fun e w'=> ∃al:Value,e= .returned (al)∧Kd.V (Kd.int .u64) 22 w' w.heap.size (fun k_=>(ad k_∨w.heap.size≤k_)) al r∧Below w.heap.size w w':=by
 have ax:=zaa.mk (show Kd.V (Kd.int .u64) 22 w w.heap.size (fun k_=>(ad k_∨w.heap.size≤k_)) (.slice A0 l0.length c0) l0 from Kd.V_mono aw (fun k_ hk=>.inl hk))
 have HB:=zaa.mk (Below.refl w.heap.size w)
 have H:(zaD.l0 k l0 0)=some r:=h
 clear h
 have H':=zaa.mk H
 clear H
 go_enter Tryz.func78,Tryz.ntmps78
 go_wp2
 go_loopg [0] k (fun kq v0 w'=> ∃(A:List Int),zaa (zaD.l0 kq A 0=some r)∧zaa (kq≤k)∧zaa (Kd.V (Kd.int .u64) 22 w' w.heap.size (fun k_=>(ad k_∨w.heap.size≤k_)) v0 A)∧zaa (Below w.heap.size w w'))
 case atStart=>exact⟨(l0),H',⟨Nat.le_refl _⟩,⟨by(with_reducible repeat(first|apply Kd.V_alloc|apply Kd.V_drewN|apply Kd.V_drew));exact ax.out⟩,⟨bz⟩⟩
 case round=>
  clear H'
  obtain⟨A,HA,am,D,HB⟩:=hrel
  cases gk with
  |zero=>exact absurd HA.out (by simp[zaD.l0])
  |succ k1=>
   have H:=HA.out
   clear HA
   simp only[zaD.l0] at H
   by_cases c2:(A.length:Int)>0
   ·replace H:=hE H c2
    have an:decide (0<(A.length:Int))=true:=decide_eq_true c2
    have ao:decide (0<A.length)=true:=decide_eq_true (by omega)
    clear c2
    obtain⟨B,U⟩: ∃j_:Int,(wrap64 ((A.length:Int)-1))=j_:=⟨_,rfl⟩
    (first|rw[U] at H|simp only[U] at H)
    have ay:(IntKind.i64.wrap ((A.length:Int)-1))=B:=(zad _).trans U
    by_cases c4:0≤(B)
    ·replace H:=hE H c4
     have aB:=decide_eq_true c4
     clear c4
     by_cases c5:(B)<(A.length:Int)
     ·replace H:=hE H c5
      have aC:=decide_eq_true c5
      clear c5
      by_cases c6:(rd A (B))=0
      ·replace H:=hE H c6
       obtain⟨ap,ar⟩:=eT c6
       clear c6
       have aD:=eq_true (of_decide_eq_true (by first|(with_reducible assumption)|assumption):0≤(B))
       by_cases c8:(B)≤(A.length:Int)
       ·replace H:=hE H c8
        have aE:=eq_true c8
        have aF:decide ((B)≤(A.length:Int))=true:=decide_eq_true c8
        clear c8
        obtain⟨K,E⟩: ∃y_:List Int,y_=(A.take ((B):Int).toNat):=⟨_,rfl⟩
        replace H:(zaD.l0 k1 K 0)=some r:=by first|(rw[E];with_reducible exact H)|(have ah:=(Option.bind_some _ _).symm.trans H;rw[E];with_reducible exact ah)|(have ah:=(Option.bind_some _ _).symm.trans H;with_reducible exact ah)|with_reducible exact H|(rw[E];exact H)|exact H
        have X:=zaa.mk E
        clear E
        have H':=zaa.mk H
        clear H
        obtain⟨aM,ae,az⟩:=Kd.V_slice D.out
        subst az
        have I:0≤((B):Int):=of_decide_eq_true (by first|(with_reducible assumption)|assumption)
        have J:(B)<(A.length:Int):=of_decide_eq_true (by first|(with_reducible assumption)|assumption)
        obtain⟨M,Y,Z⟩:=Kd.at_int (Kd.V_reads' D.out).2.2 (B) I J
        cases Y
        replace I:=eq_true I
        replace J:=eq_true J
        have ai:((B):Int)≤((A.length:Int):Int):=of_decide_eq_true (by first|(with_reducible assumption)|assumption)
        obtain⟨aG,aa,_,aj,_⟩:=info_parts zgF
        have O:A.length≤ae:=(Kd.V_reads' D.out).2.1
        have ag:Kd.F (Kd.int .u64) _ _ (some M) A.length A:=(Kd.V_at (base:=w.heap.size) D.out).2.2
        have af:=zi8 (P:=Tryz.prog) 77 22 .i64 Tryz.underlying77 aa (some M) A.length ae (B) (of_decide_eq_true (by first|(with_reducible assumption)|assumption)) ai O
        have ab:=Kd.F_take (m:=((B):Int).toNat) ag (by omega)
        have ac:K.length=((B):Int).toNat:=(by rw[X.out,List.length_take];omega)
        rw[←X.out] at ab
        rw[←ac] at af
        have ak:=zaa.mk (show Kd.V (Kd.int .u64) 22 _ w.heap.size _ (.slice (some M) K.length ae) K from Kd.V_mk (by omega) ab)
        have aA:=zaa.mk (show K.length≤ae from by omega)
        clear ab ag O aa aj
        have aH:=zaa.mk ac
        clear ac
        replace ai:=eq_true ai
        go_wp2
        go_roundg k1
        case measure=>have:=am.out;omega
        case rel=>exact⟨(K),H',⟨by have:=am.out;omega⟩,⟨by(with_reducible repeat(first|apply Kd.V_alloc|apply Kd.V_drewN|apply Kd.V_drew));exact ak.out⟩,⟨bz⟩⟩
       replace H:=hN H c8
       exact absurd H (by simp)
      replace H:=hN H c6
      obtain⟨ap,ar⟩:=eF c6
      obtain rfl:=Option.some.inj H
      obtain⟨aI,aJ,au⟩:=Kd.V_slice D.out
      subst au
      have I:0≤((B):Int):=of_decide_eq_true (by first|(with_reducible assumption)|assumption)
      have J:(B)<(A.length:Int):=of_decide_eq_true (by first|(with_reducible assumption)|assumption)
      obtain⟨M,Y,Z⟩:=Kd.at_int (Kd.V_reads' D.out).2.2 (B) I J
      cases Y
      replace I:=eq_true I
      replace J:=eq_true J
      go_wp2
      go_ret
      exact⟨_,by first|rfl|(simp[zan,zao]<;>rfl)|(simp only[←U];first|rfl|(simp[zan,zao]<;>rfl))|(simp[*,zan,zao]<;>rfl),by(with_reducible repeat(first|apply Kd.V_alloc|apply Kd.V_drewN|apply Kd.V_drew));exact D.out,bz⟩
     replace H:=hN H c5
     exact absurd H (by simp)
    replace H:=hN H c4
    exact absurd H (by simp)
   replace H:=hN H c2
   have an:decide (0<(A.length:Int))=false:=decide_eq_false c2
   have ao:decide (0<A.length)=false:=decide_eq_false (by omega)
   clear c2
   obtain rfl:=Option.some.inj H
   obtain⟨aK,aL,av⟩:=Kd.V_slice D.out
   subst av
   go_wp2
   go_ret
   exact⟨_,by first|rfl|(simp[zan,zao]<;>rfl)|(simp[*,zan,zao]<;>rfl),by(with_reducible repeat(first|apply Kd.V_alloc|apply Kd.V_drewN|apply Kd.V_drew));exact D.out,bz⟩
end
end Go.Proofs.YtecpgdfnamkfdaaGreatDoor.Fn
end
section
namespace Go.Proofs.YtecpgdfnamkfdaaGreatDoor.Fn
open Go.RowKit Go.Proofs.YtecpgdfnamkfdaaGreatDoorW.PrintWords Go.Proofs.YtecpgdfnamkfdaaGreatDoorW.PrintLast Go.Proofs.YtecpgdfnamkfdaaGreatDoorW.PrintMore
attribute [local go_sem] fnW_0 fnW_1 fnW_2 fnW_3 fnW_4 fnW_5 fnW_guard fnW_eql zaK zaL zaQ zaR
set_option linter.unusedVariables false
set_option linter.unusedSimpArgs false
mutual
def zaz.j0:Nat→ByteArray→Int→ByteArray→Int→Option (ByteArray×Int×Int)
 |0,_,_,_,_=>none
 |k+1,B,A,D,E=>if 0≤(wrap64 ((wrap64 (A-(mn (wrap64 (A-(B.size:Int))) (wrap64 (E-(D.size:Int))))))+1)) then(if(wrap64 ((wrap64 (A-(mn (wrap64 (A-(B.size:Int))) (wrap64 (E-(D.size:Int))))))+1):Int).toNat≤281474976710656 then((some (List.replicate (wrap64 ((wrap64 (A-(mn (wrap64 (A-(B.size:Int))) (wrap64 (E-(D.size:Int))))))+1):Int).toNat 0:List Int)).bind fun I=>(zaz.l0 k I (I.length:Int) 0 B A D E)) else(none)) else(none)
def zaz.l0:Nat→List Int→Int→Int→ByteArray→Int→ByteArray→Int→Option (ByteArray×Int×Int)
 |0,_,_,_,_,_,_,_=>none
 |k+1,I,K,J,A,B,D,E=>if J<K then(if 0≤J then(if J<(I.length:Int) then(zaz.l0 k (I.set (J:Int).toNat 48) K (wrap64 (J+1)) A B D E) else(none)) else(none)) else(if 1≤(I.length:Int) then(if 2≤(I.length:Int) then(if A.size+1≤I.length then(zaz.j2 k (cpyAt I 1 A) A B D E) else(none)) else(none)) else(none))
def zaz.j2:Nat→List Int→ByteArray→Int→ByteArray→Int→Option (ByteArray×Int×Int)
 |0,_,_,_,_,_=>none
 |k+1,x8,A,B,D,E=>zaz.l1 k x8 0 (wrap64 ((x8.length:Int)-1)) A B D E
def zaz.l1:Nat→List Int→Int→Int→ByteArray→Int→ByteArray→Int→Option (ByteArray×Int×Int)
 |0,_,_,_,_,_,_,_=>none
 |k+1,x8,K,D,I,A,E,B=>if D≥0 then(if 0≤D then(if D<(x8.length:Int) then(if(wrap64 ((wrap64 (D-1))-(wrap64 (A-B))))≥0 then(if(wrap64 ((wrap64 (D-1))-(wrap64 (A-B))))<(E.size:Int) then(if 0≤(wrap64 ((wrap64 (D-1))-(wrap64 (A-B)))) then(zaz.l1 k (x8.set (D:Int).toNat (48+((((((((rd x8 D)-48)%256)+K)%256)+(((bt E (wrap64 ((wrap64 (D-1))-(wrap64 (A-B)))))-48)%256))%256)%10))) ((((((((rd x8 D)-48)%256)+K)%256)+(((bt E (wrap64 ((wrap64 (D-1))-(wrap64 (A-B)))))-48)%256))%256) / 10) (wrap64 (D-1)) I A E B) else(none)) else(zaz.l1 k (x8.set (D:Int).toNat (48+((((((rd x8 D)-48)%256)+K)%256)%10))) ((((((rd x8 D)-48)%256)+K)%256) / 10) (wrap64 (D-1)) I A E B)) else(zaz.l1 k (x8.set (D:Int).toNat (48+((((((rd x8 D)-48)%256)+K)%256)%10))) ((((((rd x8 D)-48)%256)+K)%256) / 10) (wrap64 (D-1)) I A E B)) else(none)) else(none)) else((zbb.f (strOfNums x8) (wrap64 (A+1))).bind fun J=>(if(J.1.size:Int)>2000 then(some ((⟨#[]⟩:ByteArray),0,2)) else(some (J.1,J.2,0))))
end
def zaz.f(k:Nat)(B:ByteArray)(D:Int)(E:ByteArray)(I:Int):Option (ByteArray×Int×Int):=(zbG.f k B D E I).bind fun A=>(if A.2.2.2.2=0 then(if A.1.toList=([]:List UInt8) then(some (A.2.2.1,A.2.2.2.1,0)) else(if A.2.2.1.toList=([]:List UInt8) then(some (A.1,A.2.1,0)) else((za4.f k A.1 A.2.1 A.2.2.1 A.2.2.2.1).bind fun J=>(if J<0 then(zaz.j0 k A.2.2.1 A.2.2.2.1 A.1 A.2.1) else(zaz.j0 k A.1 A.2.1 A.2.2.1 A.2.2.2.1))))) else(some ((⟨#[]⟩:ByteArray),0,A.2.2.2.2)))
set_option maxHeartbeats 8000000 in
set_option maxRecDepth 100000 in
theorem zaz.calls(k:Nat)(aB:ByteArray)(aC:Int)(aP:ByteArray)(aQ:Int)(r1:ByteArray)(r2:Int)(r3:Int)(w:World)(h:zaz.f k aB aC aP aQ=some (r1,r2,r3)):
  Calls Tryz.prog 83 #[.agg #[.string aB,.int .i64 aC],.agg #[.string aP,.int .i64 aQ]] w fun e w'=>e= .returned (.tuple #[.agg #[.string r1,.int .i64 r2],.int .i64 r3])∧Below w.heap.size w w':=by
 have it:=Tryz.underlying42
 have HB:=zaa.mk (Below.refl w.heap.size w)
 have H:((zbG.f k aB aC aP aQ).bind fun am=>(if am.2.2.2.2=0 then(if am.1.toList=([]:List UInt8) then(some (am.2.2.1,am.2.2.2.1,0)) else(if am.2.2.1.toList=([]:List UInt8) then(some (am.1,am.2.1,0)) else((za4.f k am.1 am.2.1 am.2.2.1 am.2.2.2.1).bind fun dd=>(if dd<0 then(zaz.j0 k am.2.2.1 am.2.2.2.1 am.1 am.2.1) else(zaz.j0 k am.1 am.2.1 am.2.2.1 am.2.2.2.1))))) else(some ((⟨#[]⟩:ByteArray),0,am.2.2.2.2))))=some (r1,r2,r3):=h
 clear h
 replace H:=bs H
 obtain⟨⟨ay,cA,az,cB,eb⟩,A3,H⟩:=H
 dsimp only at H
 go_enter Tryz.func83,Tryz.ntmps83
 go_upto_if 22 with(first|((with_reducible refine zak (N:=2) rfl ?_);(try(refine zcq (by rfl) ?_;dsimp only));refine zaj rfl (N:=2) rfl (cs:=#[.string aB,.int .i64 aC]) (t:=42) gz ?_;intro af hg w4 hbox hb;have g7:=gN bz hg;have J:=zaa.mk hbox;replace HB:=bN bz hb;clear hb hbox hg)|((with_reducible refine zak (N:=3) rfl ?_);(try(refine zcq (by rfl) ?_;dsimp only));refine zaj rfl (N:=3) rfl (cs:=#[.string aP,.int .i64 aQ]) (t:=42) gz ?_;intro aj hg w5 hbox hb;have g8:=gN bz hg;have ag:=lN (g:=af) (cs:=#[.string aB,.int .i64 aC]) hg bk;have ah:=rN (g:=af) (cs:=#[.string aB,.int .i64 aC]) hg bk;replace J:=kN (g:=af) (cs:=#[.string aB,.int .i64 aC]) hb bk;have K:=zaa.mk hbox;replace HB:=bN bz hb;clear hb hbox hg)|((with_reducible refine zak (N:=4) rfl ?_);(try(refine zcq (by rfl) ?_;dsimp only));refine zaj rfl (N:=4) rfl (cs:=#[.string (⟨#[]⟩:ByteArray),.int .i64 0]) (t:=42) gz ?_;intro ai hg w6 hbox hb;have g9:=gN bz hg;have Z:=lN (g:=af) (cs:=#[.string aB,.int .i64 aC]) hg bk;have aa:=rN (g:=af) (cs:=#[.string aB,.int .i64 aC]) hg bk;have ad:=lN (g:=aj) (cs:=#[.string aP,.int .i64 aQ]) hg bk;have ae:=rN (g:=aj) (cs:=#[.string aP,.int .i64 aQ]) hg bk;replace J:=kN (g:=af) (cs:=#[.string aB,.int .i64 aC]) hb bk;replace K:=kN (g:=aj) (cs:=#[.string aP,.int .i64 aQ]) hb bk;have M:=zaa.mk hbox;replace HB:=bN bz hb;clear hb hbox hg;have iu:=ag.out;have iv:=ah.out;have iw:=Z.out;have ix:=aa.out;obtain⟨bV,bW,bX,bY⟩:=cz2 (W:=w6) J;have ha:=ad.out;have hc:=ae.out;obtain⟨aR,aS,aT,aU⟩:=cz2 (W:=w6) K)|(go_at_call 127;(with_reducible refine(zbG.calls k aB aC aP aQ ay cA az cB eb _ A3.out).mono ?_);rintro e b0 ⟨rfl,hb⟩;replace J:=kN (g:=af) (cs:=#[.string aB,.int .i64 aC]) hb bk;replace K:=kN (g:=aj) (cs:=#[.string aP,.int .i64 aQ]) hb bk;replace M:=kN (g:=ai) (cs:=#[.string (⟨#[]⟩:ByteArray),.int .i64 0]) hb bk;replace HB:=bN bz hb;(try clear hb);(try clear fA);(try clear hk);(try clear hi);obtain⟨aV,aW,aX,aY⟩:=cz2 (W:=b0) J;obtain⟨aZ,a1,a2,a3⟩:=cz2 (W:=b0) K))
 (try simp only[Act.put,List.setIfInBounds_toArray,List.set_cons_zero,List.set_cons_succ])
 by_cases cF:eb=0
 ·replace H:=hE H cF
  obtain⟨aI,aJ⟩:=eT cF
  clear cF
  try first|rw[aI]|rw[aJ]
  by_cases b1:ay.toList=([]:List UInt8)
  ·replace H:=hE H b1
   have aK:(ay.toList==([]:List UInt8))=true:=beq_iff_eq.mpr b1
   have b2:(ay.toList !=([]:List UInt8))=false:=bne_eq_false_iff_eq.mpr b1
   have eE:ay.toList.isEmpty=true:=by simpa using aK
   clear b1
   simp only[Option.some.injEq,Prod.mk.injEq] at H
   obtain⟨rfl,rfl,rfl⟩:=H
   have he:=ag.out
   have hf:=ah.out
   have hh:=Z.out
   have hj:=aa.out
   obtain⟨a4,a5,a6,a7⟩:=cz2 (W:=b0) J
   have hl:=ad.out
   have hm:=ae.out
   obtain⟨a8,a9,ba,bb⟩:=cz2 (W:=b0) K
   obtain⟨bc,bd,be,bf⟩:=cz2 (W:=b0) M
   go_wp2
   refine bodyPost_ret (zaM rfl _ _ ai 42 #[.string az,.int .i64 cB] (0,0) _ rfl bk Tryz.underlying42 rfl (by kernel_rfl)) rfl ?_
   exact⟨ez,bz⟩
  replace H:=hN H b1
  have aK:(ay.toList==([]:List UInt8))=false:=beq_eq_false_iff_ne.mpr b1
  have b2:(ay.toList !=([]:List UInt8))=true:=bne_iff_ne.mpr b1
  have eE:ay.toList.isEmpty=false:=by simpa using aK
  by_cases b3:az.toList=([]:List UInt8)
  ·replace H:=hE H b3
   have aL:(az.toList==([]:List UInt8))=true:=beq_iff_eq.mpr b3
   have b4:(az.toList !=([]:List UInt8))=false:=bne_eq_false_iff_eq.mpr b3
   have eG:az.toList.isEmpty=true:=by simpa using aL
   clear b3
   simp only[Option.some.injEq,Prod.mk.injEq] at H
   obtain⟨rfl,rfl,rfl⟩:=H
   have hp:=ag.out
   have hq:=ah.out
   have hs:=Z.out
   have ht:=aa.out
   obtain⟨bg,bh,bi,bj⟩:=cz2 (W:=b0) J
   have hu:=ad.out
   have hv:=ae.out
   obtain⟨bl,bm,bn,bo⟩:=cz2 (W:=b0) K
   obtain⟨bp,bq,br,bu⟩:=cz2 (W:=b0) M
   go_wp2
   refine bodyPost_ret (zaM rfl _ _ ai 42 #[.string ay,.int .i64 cA] (0,0) _ rfl bk Tryz.underlying42 rfl (by kernel_rfl)) rfl ?_
   exact⟨ez,bz⟩
  replace H:=hN H b3
  have aL:(az.toList==([]:List UInt8))=false:=beq_eq_false_iff_ne.mpr b3
  have b4:(az.toList !=([]:List UInt8))=true:=bne_iff_ne.mpr b3
  have eG:az.toList.isEmpty=false:=by simpa using aL
  replace H:=bs H
  obtain⟨dd,hx,H⟩:=H
  have dv:=zaa.mk H
  clear H
  have hy:=ag.out
  have hz:=ah.out
  have hA:=Z.out
  have hB:=aa.out
  obtain⟨bv,bw,bA,bB⟩:=cz2 (W:=b0) J
  have hC:=ad.out
  have hD:=ae.out
  obtain⟨bC,bD,bE,bG⟩:=cz2 (W:=b0) K
  go_upto_if 40 with(first|(go_at_call 128;(with_reducible refine(za4.calls k ay cA az cB dd _ hx.out).mono ?_);rintro e fC ⟨rfl,hb⟩;replace J:=kN (g:=af) (cs:=#[.string ay,.int .i64 cA]) hb bk;replace K:=kN (g:=aj) (cs:=#[.string az,.int .i64 cB]) hb bk;replace M:=kN (g:=ai) (cs:=#[.string (⟨#[]⟩:ByteArray),.int .i64 0]) hb bk;replace HB:=bN bz hb;(try clear hb);(try clear fA);(try clear hk);(try clear hi)))
  (try simp only[Act.put,List.setIfInBounds_toArray,List.set_cons_zero,List.set_cons_succ])
  go_cut [] (fun wc=> ∃(kq:Nat) (D:ByteArray) (A:Int) (B:ByteArray) (E:Int),zaa (zaz.j0 kq D A B E=some (r1,r2,r3))∧zaa (kq≤k)∧zaa (wc.heap[af]? =some (.cells #[.string D,.int .i64 A] 42 (0,0)))∧zaa (wc.heap[aj]? =some (.cells #[.string B,.int .i64 E] 42 (0,0)))∧zaa (wc.heap[ai]? =some (.cells #[.string (⟨#[]⟩:ByteArray),.int .i64 0] 42 (0,0)))∧zaa (Below w.heap.size w wc))
  case first=>
   have H:=dv.out
   clear dv
   by_cases cz:dd<0
   ·replace H:=hE H cz
    have aM:=decide_eq_true cz
    clear cz
    try rw[aM]
    have H':=zaa.mk H
    clear H
    have hG:=ah.out
    have hH:=ag.out
    have hI:=ad.out
    have hJ:=ae.out
    obtain⟨bH,bI,bJ,bK⟩:=cz2 (W:=fC) K
    have hK:=Z.out
    have hL:=aa.out
    obtain⟨bL,bM,bO,bP⟩:=cz2 (W:=fC) J
    go_wp2
    go_meet
    case rel=>exact⟨_,(az),(cB),(ay),(cA),H',⟨by first|omega|exact Nat.le_refl _⟩,⟨bk⟩,⟨bk⟩,⟨bk⟩,⟨bz⟩⟩
   replace H:=hN H cz
   have aM:=decide_eq_false cz
   clear cz
   try rw[aM]
   have H':=zaa.mk H
   clear H
   go_wp2
   go_meet
   case rel=>exact⟨_,(ay),(cA),(az),(cB),H',⟨by first|omega|exact Nat.le_refl _⟩,⟨bk⟩,⟨bk⟩,⟨bk⟩,⟨bz⟩⟩
  case rest=>
   clear dv
   try clear cF
   try clear aI
   try clear aJ
   try clear b1
   try clear aK
   try clear b2
   try clear b3
   try clear aL
   try clear b4
   try clear cz
   try clear aM
   try clear aR aS aT aU
   try clear aV aW aX aY
   try clear aZ a1 a2 a3
   try clear a4 a5 a6 a7
   try clear a8 a9 ba bb
   try clear bc bd be bf
   try clear bg bh bi bj
   try clear bl bm bn bo
   try clear bp bq br bu
   try clear bv bw bA bB
   try clear bC bD bE bG
   try clear bH bI bJ bK
   try clear bL bM bO bP
   try clear bV bW bX bY
   obtain⟨kq,D,A,B,E,HA,bQ,J,K,M,HB⟩:=hcut
   cases kq with
   |zero=>exact absurd HA.out (by simp[zaz.j0])
   |succ dw=>
    have H:=HA.out
    clear HA
    simp only[zaz.j0] at H
    obtain⟨dx,b5⟩: ∃j_:Int,(mn (wrap64 (A-(D.size:Int))) (wrap64 (E-(B.size:Int))))=j_:=⟨_,rfl⟩
    (first|rw[b5] at H|simp only[b5] at H)
    have gn:(if(wrap64 (E-(B.size:Int)))<(wrap64 (A-(D.size:Int))) then(wrap64 (E-(B.size:Int))) else(wrap64 (A-(D.size:Int))))=dx:=b5
    obtain⟨bU,b6⟩: ∃j_:Int,(wrap64 ((wrap64 (A-(dx)))+1))=j_:=⟨_,rfl⟩
    (first|rw[b6] at H|simp only[b6] at H)
    have gp:(IntKind.i64.wrap ((wrap64 (A-(dx)))+1))=bU:=(zad _).trans b6
    by_cases cK:0≤(bU)
    ·replace H:=hE H cK
     have cW:=eq_true cK
     have cX:decide (0≤(bU))=true:=decide_eq_true cK
     clear cK
     by_cases cL:(bU:Int).toNat≤281474976710656
     ·replace H:=hE H cL
      have cY:=eq_true cL
      have cZ:decide ((bU:Int).toNat≤281474976710656)=true:=decide_eq_true cL
      clear cL
      obtain⟨b7,b8⟩: ∃y_:List Int,y_=(List.replicate (bU:Int).toNat 0):=⟨_,rfl⟩
      replace H:(zaz.l0 dw b7 (b7.length:Int) 0 D A B E)=some (r1,r2,r3):=by first|(rw[b8];with_reducible exact H)|(have ax:=(Option.bind_some _ _).symm.trans H;rw[b8];with_reducible exact ax)|(have ax:=(Option.bind_some _ _).symm.trans H;with_reducible exact ax)|with_reducible exact H|(rw[b8];exact H)|exact H
      have dy:=zaa.mk b8
      clear b8
      have H':=zaa.mk H
      clear H
      have hM:=ag.out
      have hO:=ah.out
      have hP:=Z.out
      have hQ:=aa.out
      obtain⟨ca,cb,cc,cd⟩:=cz2 (W:=wc) J
      have hR:=ad.out
      have hS:=ae.out
      obtain⟨ce,cf,cg,ci⟩:=cz2 (W:=wc) K
      go_wp2_with (first|((with_reducible refine zak (N:=61) rfl ?_);(try(refine zcq (by rfl) ?_;dsimp only));refine Kd.R_make (Kd.int .u8) _ 5 rfl (N:=61) rfl 51 _ _ rfl bU rfl rfl Tryz.underlying51 (.int .u8 0) 1 zh6 rfl (by decide) (by omega) 0 (ok:=fun _=>True) (okp:=fun _=>True) rfl (fun _ hk=>hk) trivial (of_decide_eq_true (by first|(with_reducible assumption)|assumption)) (Nat.le_trans (Nat.mul_le_mul_right _ (of_decide_eq_true (by first|(with_reducible assumption)|assumption):bU.toNat≤281474976710656)) (by omega)) (Below.refl _ _) (Nat.le_refl _) ?_;intro iy iU cM hb hg_ hnew_;clear hg_ hnew_;(first|rw[←dy.out] at cM|(simp only[Int.reduceToNat] at cM;rw[←dy.out] at cM));have an:=zaa.mk (Kd.R_lower cM (zaI bz));have ao:=zaa.mk (zag (g:=af) (o:=.cells #[.string D,.int .i64 A] 42 (0,0)) bk hb);have ap:=zaa.mk (zag (g:=aj) (o:=.cells #[.string B,.int .i64 E] 42 (0,0)) bk hb);have ar:=zaa.mk (zag (g:=ai) (o:=.cells #[.string (⟨#[]⟩:ByteArray),.int .i64 0] 42 (0,0)) bk hb);have au:=zaa.mk (zam bz hb);clear J;clear K;clear M;clear HB;have dA:=an;have J:=ao;have K:=ap;have M:=ar;have HB:=au;clear an ao ap ar au;clear hb cM;obtain⟨cj,aA,fD⟩:=Kd.R_slice dA.out;subst fD))
      go_loopg [64] dw (fun kq hU w'=> ∃(X:List Int) (aw:Int),hU= .int .i64 aw∧zaa (zaz.l0 kq X (b7.length:Int) aw D A B E=some (r1,r2,r3))∧zaa (kq≤dw)∧zaa (Kd.R (Kd.int .u8) 5 w' w.heap.size (fun _=>True) (.slice cj b7.length aA) X)∧zaa (w'.heap[af]? =some (.cells #[.string D,.int .i64 A] 42 (0,0)))∧zaa (w'.heap[aj]? =some (.cells #[.string B,.int .i64 E] 42 (0,0)))∧zaa (w'.heap[ai]? =some (.cells #[.string (⟨#[]⟩:ByteArray),.int .i64 0] 42 (0,0)))∧zaa (Below w.heap.size w w'))
      case atStart=>exact⟨(b7),(0),rz,H',⟨Nat.le_refl _⟩,⟨by(with_reducible repeat(first|apply Kd.R_alloc|apply Kd.R_drewN|apply Kd.R_drew));exact dA.out⟩,⟨bk⟩,⟨bk⟩,⟨bk⟩,⟨bz⟩⟩
      case round=>
       clear H'
       try clear cF
       try clear aI
       try clear aJ
       try clear b1
       try clear aK
       try clear b2
       try clear b3
       try clear aL
       try clear b4
       try clear cz
       try clear aM
       try clear cK
       try clear cW
       try clear cX
       try clear cL
       try clear cY
       try clear cZ
       try clear aR aS aT aU
       try clear aV aW aX aY
       try clear aZ a1 a2 a3
       try clear a4 a5 a6 a7
       try clear a8 a9 ba bb
       try clear bc bd be bf
       try clear bg bh bi bj
       try clear bl bm bn bo
       try clear bp bq br bu
       try clear bv bw bA bB
       try clear bC bD bE bG
       try clear bH bI bJ bK
       try clear bL bM bO bP
       try clear ca cb cc cd
       try clear ce cf cg ci
       try clear bV bW bX bY
       obtain⟨X,aw,rfl,HA,cG,Y,J,K,M,HB⟩:=hrel
       have O:=(Kd.R_reads' Y.out).1
       rw[O] at Y
       (try simp only[O])
       (try simp only[O] at J)
       (try simp only[O] at K)
       (try simp only[O] at M)
       cases gk with
       |zero=>exact absurd HA.out (by simp[zaz.l0])
       |succ k2=>
        have H:=HA.out
        clear HA
        simp only[zaz.l0] at H
        by_cases cN:aw<(b7.length:Int)
        ·replace H:=hE H cN
         have ck:=decide_eq_true cN
         (try(have c5:=ck;(first|rw[O] at c5);skip))
         clear cN
         by_cases dn:0≤aw
         ·replace H:=hE H dn
          have dB:=decide_eq_true dn
          clear dn
          by_cases dp:aw<(X.length:Int)
          ·replace H:=hE H dp
           have c6:=decide_eq_true dp
           (try(have eH:=c6;(first|rw[O] at eH);skip))
           clear dp
           obtain⟨dC,cm⟩: ∃y_:List Int,y_=(X.set (aw:Int).toNat 48):=⟨_,rfl⟩
           replace H:(zaz.l0 k2 dC (b7.length:Int) (wrap64 (aw+1)) D A B E)=some (r1,r2,r3):=by first|(rw[cm];with_reducible exact H)|(have ax:=(Option.bind_some _ _).symm.trans H;rw[cm];with_reducible exact ax)|(have ax:=(Option.bind_some _ _).symm.trans H;with_reducible exact ax)|with_reducible exact H|(rw[cm];exact H)|exact H
           have eI:=zaa.mk cm
           clear cm
           have H':=zaa.mk H
           clear H
           have p59:0≤(aw:Int):=of_decide_eq_true (by first|(with_reducible assumption)|assumption)
           have c7:(aw:Int)<((X.length:Int):Int):=of_decide_eq_true (by first|(with_reducible assumption)|assumption)
           obtain⟨dD,iz,ec,ed,fF,iA,ee⟩:=Kd.R_form Y.out (by omega)
           (first|cases ec|(injection ec with ea_ en_ ec_;(first|subst ea_|(injection ea_ with ea_;subst ea_));subst ec_;clear en_))
           have fG:=zaa.mk ed
           have iB:=zaa.mk ee
           clear ed fF ee
           obtain⟨de,gq⟩:=Kd.R_celln 0 Y.out (aw:Int) p59 c7
           replace p59:=eq_true p59
           replace c7:=eq_true c7
           have df:=Kd.R_putg Y.out (aw:Int) 48
           go_wp2_with (first|((with_reducible refine zcp (t:=5) (p:=69) rfl ?_);(try(rw[zbe wr];generalize av:World.drewN wr _=wr;have an:=zaa.mk (Kd.R_at av Y.out);have ao:=zaa.mk (zbO av J.out);have ap:=zaa.mk (zbO av K.out);have ar:=zaa.mk (zbO av M.out);have au:=zaa.mk (zcX av HB.out);clear av Y J K M HB;have Y:=an;have J:=ao;have K:=ap;have M:=ar;have HB:=au;clear an ao ap ar au;(try(have df:=Kd.R_putg Y.out (aw:Int) 48))));refine zce (t:=5) (p:=69) (v:=?vo_w61) (w1:=(wr.setCell ⟨dD,(aw:Int).toNat,none⟩ (.int .u8 48))) ?hg ?ho ?hn ?hr ?_;(case ho=>rfl);(case hg=>rfl);(case hn=>rfl);(case hr=>first|(go_simp;done)|(go_simp;rfl));intro eJ hw;have hg:wr.grownBy eJ (some dD):=(by rw[hw];exact df.2);have hp_:Kd.R (Kd.int .u8) 5 eJ w.heap.size (fun _=>True) (.slice (some ⟨dD,0,none⟩) X.length aA) dC:=(by rw[hw,eI.out];exact df.1);clear df;have an:=zaa.mk (hp_);have ao:=zaa.mk (zbv (g:=af) (o:=.cells #[.string D,.int .i64 A] 42 (0,0)) bk hg (Kd.R_ne Y.out J.out (by decide)));have ap:=zaa.mk (zbv (g:=aj) (o:=.cells #[.string B,.int .i64 E] 42 (0,0)) bk hg (Kd.R_ne Y.out K.out (by decide)));have ar:=zaa.mk (zbv (g:=ai) (o:=.cells #[.string (⟨#[]⟩:ByteArray),.int .i64 0] 42 (0,0)) bk hg (Kd.R_ne Y.out M.out (by decide)));have au:=zaa.mk ((by rw[hw];exact zbL (HB.out) fG.out:Below w.heap.size w eJ));clear Y;clear J;clear K;clear M;clear HB;have Y:=an;have J:=ao;have K:=ap;have M:=ar;have HB:=au;clear an ao ap ar au;clear hg hw hp_))
           (try simp only[←O])
           go_roundg k2
           case measure=>have:=bQ.out;have:=cG.out;omega
           case rel=>exact⟨(dC),(wrap64 (aw+1)),rz,H',⟨by have:=bQ.out;have:=cG.out;omega⟩,⟨by(try simp only[O]);(with_reducible repeat(first|apply Kd.R_alloc|apply Kd.R_drewN|apply Kd.R_drew));exact Y.out⟩,⟨by(try simp only[O]);(with_reducible repeat(first|refine zbk ?_ _|refine zaw ?_|refine zbj ?_ _));exact J.out⟩,⟨by(try simp only[O]);(with_reducible repeat(first|refine zbk ?_ _|refine zaw ?_|refine zbj ?_ _));exact K.out⟩,⟨by(try simp only[O]);(with_reducible repeat(first|refine zbk ?_ _|refine zaw ?_|refine zbj ?_ _));exact M.out⟩,⟨bz⟩⟩
          replace H:=hN H dp
          exact absurd H (by simp)
         replace H:=hN H dn
         exact absurd H (by simp)
        replace H:=hN H cN
        have ck:=decide_eq_false cN
        (try(have c5:=ck;(first|rw[O] at c5);skip))
        clear cN
        have dE:=zaa.mk H
        clear H
        go_upto_region 17 with(fail)
        go_cut [] (fun wc=> ∃(kq:Nat) (bR:List Int),zaa (zaz.j2 kq bR D A B E=some (r1,r2,r3))∧zaa (kq≤k2)∧zaa (Kd.R (Kd.int .u8) 5 wc w.heap.size (fun _=>True) (.slice cj X.length aA) bR)∧zaa (wc.heap[af]? =some (.cells #[.string D,.int .i64 A] 42 (0,0)))∧zaa (wc.heap[aj]? =some (.cells #[.string B,.int .i64 E] 42 (0,0)))∧zaa (wc.heap[ai]? =some (.cells #[.string (⟨#[]⟩:ByteArray),.int .i64 0] 42 (0,0)))∧zaa (Below w.heap.size w wc))
        case first=>
         have H:=dE.out
         clear dE
         by_cases c8:1≤(X.length:Int)
         ·replace H:=hE H c8
          have dF:=eq_true c8
          have dG:decide (1≤(X.length:Int))=true:=decide_eq_true c8
          clear c8
          obtain⟨cO,cn⟩: ∃y_:List Int,y_=(X.drop 1):=⟨_,rfl⟩
          replace H:(if 2≤(X.length:Int) then(if D.size+1≤X.length then(zaz.j2 k2 (cpyAt X 1 D) D A B E) else(none)) else(none))=some (r1,r2,r3):=by first|(rw[cn];with_reducible exact H)|(have ax:=(Option.bind_some _ _).symm.trans H;rw[cn];with_reducible exact ax)|(have ax:=(Option.bind_some _ _).symm.trans H;with_reducible exact ax)|with_reducible exact H|(rw[cn];exact H)|exact H
          have dH:=zaa.mk cn
          clear cn
          by_cases c9:2≤(X.length:Int)
          ·replace H:=hE H c9
           have dI:=eq_true c9
           have dJ:decide (2≤(X.length:Int))=true:=decide_eq_true c9
           clear c9
           by_cases dq:D.size+1≤X.length
           ·replace H:=hE H dq
            have dK:=eq_true dq
            have dL:decide (D.size+1≤X.length)=true:=decide_eq_true dq
            obtain⟨dM,co⟩: ∃y_:List Int,y_=(cpyAt X 1 D):=⟨_,rfl⟩
            replace H:(zaz.j2 k2 dM D A B E)=some (r1,r2,r3):=by first|(rw[co];with_reducible exact H)|(have ax:=(Option.bind_some _ _).symm.trans H;rw[co];with_reducible exact ax)|(have ax:=(Option.bind_some _ _).symm.trans H;with_reducible exact ax)|with_reducible exact H|(rw[co];exact H)|exact H
            have eK:=zaa.mk co
            clear co
            have H':=zaa.mk H
            clear H
            have da:(1:Int)≤((X.length:Int):Int):=of_decide_eq_true (by first|(with_reducible assumption)|assumption)
            obtain⟨iC,dN,_,dO,_⟩:=info_parts zh6
            have cp:X.length≤aA:=(Kd.R_reads' Y.out).2.1
            have ef:Kd.C (Kd.int .u8) _ cj X.length X:=(Kd.R_reads' Y.out).2.2
            have d7:=zhr (P:=Tryz.prog) 51 5 .i64 Tryz.underlying51 dN 1 dO cj X.length aA 1 (by omega) da
            have cP:=Kd.C_drop (m:=(1:Int).toNat) (c:=aA) ef (by omega) cp
            obtain⟨fH,dh⟩: ∃A1,A1=(if aA=(1:Int).toNat then cj else(cj:Option Addr).map (·.add ((1:Int).toNat*1))):=⟨_,rfl⟩
            obtain⟨eL,dP⟩: ∃c1,c1=aA-(1:Int).toNat:=⟨_,rfl⟩
            have di:cO.length=X.length-(1:Int).toNat:=(by rw[dH.out,List.length_drop]<;>omega)
            rw[show(X).drop (1:Int).toNat=cO from dH.out.symm] at cP
            replace cP:Kd.C (Kd.int .u8) _ fH cO.length cO:=(by rw[dh];exact cP)
            rw[←di,←dh,←dP] at d7
            have hV:=zaa.mk cP
            have hW:=zaa.mk (show cO.length≤eL from by rw[di,dP];exact Nat.sub_le_sub_right cp _)
            clear cP ef cp dN dO dP
            have fI:=zaa.mk di
            have fJ:=zaa.mk dh
            clear di dh
            have iD:=zaa.mk (show 1≤X.length from by omega)
            replace da:=eq_true da
            have hX:=ag.out
            have hY:=ah.out
            have hZ:=Z.out
            have h0:=aa.out
            obtain⟨cQ,cR,cS,cT⟩:=cz2 (W:=wr) J
            have p66:0≤(0:Int):=(by omega)
            have db:(0:Int)<((X.length:Int):Int):=of_decide_eq_true (by first|(with_reducible assumption)|assumption)
            have eg:(0<X.length)=True:=eq_true (by omega)
            obtain⟨dQ,iE,eh,ei,fK,iF,ej⟩:=Kd.R_form Y.out (by omega)
            (first|cases eh|(injection eh with ea_ en_ ec_;(first|subst ea_|(injection ea_ with ea_;subst ea_));subst ec_;clear en_))
            have iG:=zaa.mk ei
            have iH:=zaa.mk ej
            clear ei fK ej
            obtain⟨bZ,dj⟩:=Kd.R_celln 0 Y.out (0:Int) p66 db
            (try rw[show((0:Int)).toNat=0 from rfl] at bZ)
            (try simp only[Nat.reduceMul,Nat.zero_mul,Nat.zero_add,Nat.reduceAdd] at bZ)
            (try rw[show((0:Int)).toNat=0 from rfl] at dj)
            (try simp only[Nat.reduceMul,Nat.zero_mul,Nat.zero_add,Nat.reduceAdd] at dj)
            replace p66:=eq_true p66
            replace db:=eq_true db
            have iI:=Kd.R_putg Y.out (0:Int) 0
            have h1:2≤X.length:=by have h_:(2:Int)≤(X.length:Int):=of_decide_eq_true (by assumption);omega
            have hfit_:D.size+1≤X.length:=of_decide_eq_true (by assumption)
            have ek:fH=some ⟨dQ,1,none⟩:=by
             have h_:=fJ.out
             have hc_:=(Kd.R_reads' Y.out).2.1
             rw[if_neg (by simp;omega)] at h_
             rw[h_];rfl
            have hyl_:=fI.out
            have fL:=zaa.mk ek
            clear ek
            have Hfit_:=zaa.mk hfit_
            have Hyl_:=zaa.mk hyl_
            clear hyl_ hfit_
            go_region_law ((try(rw[zbe wr];generalize av:World.drewN wr _=wr;have an:=zaa.mk (Kd.R_at av Y.out);have ao:=zaa.mk (zbO av J.out);have ap:=zaa.mk (zbO av K.out);have ar:=zaa.mk (zbO av M.out);have au:=zaa.mk (zcX av HB.out);clear av Y J K M HB;have Y:=an;have J:=ao;have K:=ap;have M:=ar;have HB:=au;clear an ao ap ar au));refine zfR (w0:=w) rfl _ _ _ _ rfl 5 Tryz.underlying51 (by kernel_rfl) (g:=dQ) rfl fL.out D rfl (by have h2:=Hyl_.out;have h1:=Hfit_.out;rw[h2];simp;omega) Hfit_.out Y.out bz ?_;intro fN ho_ hg hb_;have hp_:Kd.R (Kd.int .u8) 5 fN w.heap.size (fun _=>True) (.slice (some ⟨dQ,0,none⟩) X.length aA) dM:=(by rw[eK.out];exact ho_);clear ho_;have an:=zaa.mk (hp_);have ao:=zaa.mk (zbv (g:=af) (o:=.cells #[.string D,.int .i64 A] 42 (0,0)) bk hg (Kd.R_ne Y.out J.out (by decide)));have ap:=zaa.mk (zbv (g:=aj) (o:=.cells #[.string B,.int .i64 E] 42 (0,0)) bk hg (Kd.R_ne Y.out K.out (by decide)));have ar:=zaa.mk (zbv (g:=ai) (o:=.cells #[.string (⟨#[]⟩:ByteArray),.int .i64 0] 42 (0,0)) bk hg (Kd.R_ne Y.out M.out (by decide)));have au:=zaa.mk ((hb_:Below w.heap.size w fN));clear Y;clear J;clear K;clear M;clear HB;have Y:=an;have J:=ao;have K:=ap;have M:=ar;have HB:=au;clear an ao ap ar au;clear hg hb_ hp_)
            all_goals(try go_wp2)
            go_meet
            case rel=>exact⟨_,(dM),H',⟨by have:=bQ.out;have:=cG.out;first|omega|exact Nat.le_refl _⟩,⟨by(try simp only[O]);(with_reducible repeat(first|apply Kd.R_alloc|apply Kd.R_drewN|apply Kd.R_drew));exact Y.out⟩,⟨by(try simp only[O]);(with_reducible repeat(first|refine zbk ?_ _|refine zaw ?_|refine zbj ?_ _));exact J.out⟩,⟨by(try simp only[O]);(with_reducible repeat(first|refine zbk ?_ _|refine zaw ?_|refine zbj ?_ _));exact K.out⟩,⟨by(try simp only[O]);(with_reducible repeat(first|refine zbk ?_ _|refine zaw ?_|refine zbj ?_ _));exact M.out⟩,⟨bz⟩⟩
           replace H:=hN H dq
           exact absurd H (by simp)
          replace H:=hN H c9
          exact absurd H (by simp)
         replace H:=hN H c8
         exact absurd H (by simp)
        case rest=>
         clear dE
         try clear c1
         try clear cF
         try clear aI
         try clear aJ
         try clear b1
         try clear aK
         try clear b2
         try clear b3
         try clear aL
         try clear b4
         try clear cz
         try clear aM
         try clear cK
         try clear cW
         try clear cX
         try clear cL
         try clear cY
         try clear cZ
         try clear cN
         try clear ck
         try clear dn
         try clear dB
         try clear dp
         try clear c6
         try clear p59
         try clear c7
         try clear c8
         try clear dF
         try clear dG
         try clear c9
         try clear dI
         try clear dJ
         try clear dq
         try clear dK
         try clear dL
         try clear p66
         try clear db
         try clear eg
         try clear eL
         try clear da
         try clear aR aS aT aU
         try clear aV aW aX aY
         try clear aZ a1 a2 a3
         try clear a4 a5 a6 a7
         try clear a8 a9 ba bb
         try clear bc bd be bf
         try clear bg bh bi bj
         try clear bl bm bn bo
         try clear bp bq br bu
         try clear bv bw bA bB
         try clear bC bD bE bG
         try clear bH bI bJ bK
         try clear bL bM bO bP
         try clear ca cb cc cd
         try clear ce cf cg ci
         try clear cQ cR cS cT
         try clear bV bW bX bY
         try clear de
         try clear bZ
         try clear p59
         try clear p66
         try clear c7
         try clear db
         try clear da
         obtain⟨kq,bR,HA,cC,U,J,K,M,HB⟩:=hcut
         have ab:=(Kd.R_reads' U.out).1
         rw[ab] at U
         (try simp only[ab])
         (try simp only[ab] at J)
         (try simp only[ab] at K)
         (try simp only[ab] at M)
         cases kq with
         |zero=>exact absurd HA.out (by simp[zaz.j2])
         |succ em=>
          have H:=HA.out
          clear HA
          simp only[zaz.j2] at H
          have H':=zaa.mk H
          clear H
          go_wp2
          go_loopg [10,11] em (fun kq h3 h4 w'=> ∃(ac:List Int) (ak:Int) (I:Int),h3= .int .u8 ak∧h4= .int .i64 I∧zaa (zaz.l1 kq ac ak I D A B E=some (r1,r2,r3))∧zaa (kq≤em)∧zaa (Kd.R (Kd.int .u8) 5 w' w.heap.size (fun _=>True) (.slice cj bR.length aA) ac)∧zaa (w'.heap[af]? =some (.cells #[.string D,.int .i64 A] 42 (0,0)))∧zaa (w'.heap[aj]? =some (.cells #[.string B,.int .i64 E] 42 (0,0)))∧zaa (w'.heap[ai]? =some (.cells #[.string (⟨#[]⟩:ByteArray),.int .i64 0] 42 (0,0)))∧zaa (Below w.heap.size w w'))
          case atStart=>exact⟨(bR),(0),(wrap64 ((bR.length:Int)-1)),rz,rz,H',⟨Nat.le_refl _⟩,⟨by(try simp only[O]);(try simp only[ab]);(with_reducible repeat(first|apply Kd.R_alloc|apply Kd.R_drewN|apply Kd.R_drew));exact U.out⟩,⟨by(try simp only[O]);(try simp only[ab]);(with_reducible repeat(first|refine zbk ?_ _|refine zaw ?_|refine zbj ?_ _));exact J.out⟩,⟨by(try simp only[O]);(try simp only[ab]);(with_reducible repeat(first|refine zbk ?_ _|refine zaw ?_|refine zbj ?_ _));exact K.out⟩,⟨by(try simp only[O]);(try simp only[ab]);(with_reducible repeat(first|refine zbk ?_ _|refine zaw ?_|refine zbj ?_ _));exact M.out⟩,⟨bz⟩⟩
          case round=>
           clear H'
           try clear c1
           try clear cF
           try clear aI
           try clear aJ
           try clear b1
           try clear aK
           try clear b2
           try clear b3
           try clear aL
           try clear b4
           try clear cz
           try clear aM
           try clear cK
           try clear cW
           try clear cX
           try clear cL
           try clear cY
           try clear cZ
           try clear cN
           try clear ck
           try clear dn
           try clear dB
           try clear dp
           try clear c6
           try clear p59
           try clear c7
           try clear c8
           try clear dF
           try clear dG
           try clear c9
           try clear dI
           try clear dJ
           try clear dq
           try clear dK
           try clear dL
           try clear p66
           try clear db
           try clear eg
           try clear eL
           try clear da
           try clear aR aS aT aU
           try clear aV aW aX aY
           try clear aZ a1 a2 a3
           try clear a4 a5 a6 a7
           try clear a8 a9 ba bb
           try clear bc bd be bf
           try clear bg bh bi bj
           try clear bl bm bn bo
           try clear bp bq br bu
           try clear bv bw bA bB
           try clear bC bD bE bG
           try clear bH bI bJ bK
           try clear bL bM bO bP
           try clear ca cb cc cd
           try clear ce cf cg ci
           try clear cQ cR cS cT
           try clear bV bW bX bY
           try clear de
           try clear bZ
           try clear p59
           try clear p66
           try clear c7
           try clear db
           try clear da
           obtain⟨ac,ak,I,rfl,rfl,HA,dr,U,J,K,M,HB⟩:=hrel
           have al:=(Kd.R_reads' U.out).1
           rw[al] at U
           (try simp only[al])
           (try simp only[al] at J)
           (try simp only[al] at K)
           (try simp only[al] at M)
           cases gk with
           |zero=>exact absurd HA.out (by simp[zaz.l1])
           |succ k4=>
            have H:=HA.out
            clear HA
            simp only[zaz.l1] at H
            by_cases ds:I≥0
            ·replace H:=hE H ds
             have eM:decide (0≤I)=true:=decide_eq_true ds
             clear ds
             by_cases d8:0≤I
             ·replace H:=hE H d8
              have h5:=decide_eq_true d8
              clear d8
              by_cases d9:I<(ac.length:Int)
              ·replace H:=hE H d9
               have eN:=decide_eq_true d9
               (try(have dc:=eN;(first|rw[al] at dc|rw[ab] at dc|rw[O] at dc);skip))
               clear d9
               by_cases dt:(wrap64 ((wrap64 (I-1))-(wrap64 (A-E))))≥0
               ·replace H:=hE H dt
                have dR:decide (0≤(wrap64 ((wrap64 (I-1))-(wrap64 (A-E)))))=true:=decide_eq_true dt
                clear dt
                by_cases du:(wrap64 ((wrap64 (I-1))-(wrap64 (A-E))))<(B.size:Int)
                ·replace H:=hE H du
                 have dS:=decide_eq_true du
                 clear du
                 obtain⟨aD,bS⟩: ∃j_:Int,(wrap64 ((wrap64 (I-1))-(wrap64 (A-E))))=j_:=⟨_,rfl⟩
                 (first|rw[bS] at H|simp only[bS] at H)
                 (try rw[bS] at dR)
                 (try rw[bS] at dS)
                 have gr:(IntKind.i64.wrap ((wrap64 (I-1))-(wrap64 (A-E))))=aD:=(zad _).trans bS
                 by_cases ea:0≤(aD)
                 ·replace H:=hE H ea
                  have h6:=decide_eq_true ea
                  clear ea
                  obtain⟨dT,cq⟩: ∃y_:List Int,y_=(ac.set (I:Int).toNat (48+((((((((rd ac I)-48)%256)+ak)%256)+(((bt B (aD))-48)%256))%256)%10))):=⟨_,rfl⟩
                  replace H:(zaz.l1 k4 dT ((((((((rd ac I)-48)%256)+ak)%256)+(((bt B (aD))-48)%256))%256) / 10) (wrap64 (I-1)) D A B E)=some (r1,r2,r3):=by first|(rw[cq];with_reducible exact H)|(have ax:=(Option.bind_some _ _).symm.trans H;rw[cq];with_reducible exact ax)|(have ax:=(Option.bind_some _ _).symm.trans H;with_reducible exact ax)|with_reducible exact H|(rw[cq];exact H)|exact H
                  have eO:=zaa.mk cq
                  clear cq
                  have H':=zaa.mk H
                  clear H
                  have aE:0≤(I:Int):=of_decide_eq_true (by first|(with_reducible assumption)|assumption)
                  have aF:I<(ac.length:Int):=of_decide_eq_true (by first|(with_reducible assumption)|assumption)
                  obtain⟨dU,cV,aG⟩:=Kd.at_int (Kd.R_reads' U.out).2.2 I aE aF
                  cases cV
                  replace aE:=eq_true aE
                  replace aF:=eq_true aF
                  have h7:=ag.out
                  have h8:=ah.out
                  have h9:=Z.out
                  have ia:=aa.out
                  obtain⟨fO,fP,fQ,fR⟩:=cz2 (W:=wr) J
                  have ib:=ad.out
                  have ic:=ae.out
                  obtain⟨fS,fT,fU,fV⟩:=cz2 (W:=wr) K
                  have fX:0≤((aD):Int):=of_decide_eq_true (by first|(with_reducible assumption)|assumption)
                  have fY:(aD)<(B.size:Int):=of_decide_eq_true (by first|(with_reducible assumption)|assumption)
                  have iJ:=zch B (aD)
                  replace fX:=eq_true fX
                  replace fY:=eq_true fY
                  have eP:0≤(I:Int):=of_decide_eq_true (by first|(with_reducible assumption)|assumption)
                  have eQ:(I:Int)<((ac.length:Int):Int):=of_decide_eq_true (by first|(with_reducible assumption)|assumption)
                  obtain⟨dV,iK,en,eo,fZ,iL,ep⟩:=Kd.R_form U.out (by omega)
                  (first|cases en|(injection en with ea_ en_ ec_;(first|subst ea_|(injection ea_ with ea_;subst ea_));subst ec_;clear en_))
                  have f0:=zaa.mk eo
                  have iM:=zaa.mk ep
                  clear eo fZ ep
                  (first|simp only[add_plain] at aG|skip)
                  obtain⟨gs,gt⟩:=Kd.R_celln 0 U.out (I:Int) eP eQ
                  replace eP:=eq_true eP
                  replace eQ:=eq_true eQ
                  have dk:=Kd.R_putg U.out (I:Int) (48+((((((((rd ac I)-48)%256)+ak)%256)+(((bt B (aD))-48)%256))%256)%10))
                  go_wp2_with (first|((with_reducible refine zcp (t:=5) (p:=121) rfl ?_);(try(rw[zbe wr];generalize av:World.drewN wr _=wr;have an:=zaa.mk (Kd.R_at av U.out);have ao:=zaa.mk (zbO av J.out);have ap:=zaa.mk (zbO av K.out);have ar:=zaa.mk (zbO av M.out);have au:=zaa.mk (zcX av HB.out);clear av U J K M HB;have U:=an;have J:=ao;have K:=ap;have M:=ar;have HB:=au;clear an ao ap ar au;(try(have dk:=Kd.R_putg U.out (I:Int) (48+((((((((rd ac I)-48)%256)+ak)%256)+(((bt B (aD))-48)%256))%256)%10))))));refine zce (t:=5) (p:=121) (v:=?vo_w88) (w1:=(wr.setCell ⟨dV,(I:Int).toNat,none⟩ (.int .u8 (48+((((((((rd ac I)-48)%256)+ak)%256)+(((bt B (aD))-48)%256))%256)%10))))) ?hg ?ho ?hn ?hr ?_;(case ho=>rfl);(case hg=>rfl);(case hn=>rfl);(case hr=>first|(go_simp;done)|(go_simp;rfl));intro eR hw;have hg:wr.grownBy eR (some dV):=(by rw[hw];exact dk.2);have hp_:Kd.R (Kd.int .u8) 5 eR w.heap.size (fun _=>True) (.slice (some ⟨dV,0,none⟩) ac.length aA) dT:=(by rw[hw,eO.out];exact dk.1);clear dk;have an:=zaa.mk (hp_);have ao:=zaa.mk (zbv (g:=af) (o:=.cells #[.string D,.int .i64 A] 42 (0,0)) bk hg (Kd.R_ne U.out J.out (by decide)));have ap:=zaa.mk (zbv (g:=aj) (o:=.cells #[.string B,.int .i64 E] 42 (0,0)) bk hg (Kd.R_ne U.out K.out (by decide)));have ar:=zaa.mk (zbv (g:=ai) (o:=.cells #[.string (⟨#[]⟩:ByteArray),.int .i64 0] 42 (0,0)) bk hg (Kd.R_ne U.out M.out (by decide)));have au:=zaa.mk ((by rw[hw];exact zbL (HB.out) f0.out:Below w.heap.size w eR));clear U;clear J;clear K;clear M;clear HB;have U:=an;have J:=ao;have K:=ap;have M:=ar;have HB:=au;clear an ao ap ar au;clear hg hw hp_))
                  (try simp only[←al])
                  go_roundg k4
                  case measure=>have:=bQ.out;have:=cG.out;have:=cC.out;have:=dr.out;omega
                  case rel=>exact⟨(dT),((((((((rd ac I)-48)%256)+ak)%256)+(((bt B (aD))-48)%256))%256) / 10),(wrap64 (I-1)),(by first|rfl|(simp;done)|(simp only[←bS]<;>(first|rfl|simp))|(simp[*];done)),rz,H',⟨by have:=bQ.out;have:=cG.out;have:=cC.out;have:=dr.out;omega⟩,⟨by(try simp only[O]);(try simp only[ab]);(try simp only[al]);(with_reducible repeat(first|apply Kd.R_alloc|apply Kd.R_drewN|apply Kd.R_drew));exact U.out⟩,⟨by(try simp only[O]);(try simp only[ab]);(try simp only[al]);(with_reducible repeat(first|refine zbk ?_ _|refine zaw ?_|refine zbj ?_ _));exact J.out⟩,⟨by(try simp only[O]);(try simp only[ab]);(try simp only[al]);(with_reducible repeat(first|refine zbk ?_ _|refine zaw ?_|refine zbj ?_ _));exact K.out⟩,⟨by(try simp only[O]);(try simp only[ab]);(try simp only[al]);(with_reducible repeat(first|refine zbk ?_ _|refine zaw ?_|refine zbj ?_ _));exact M.out⟩,⟨bz⟩⟩
                 replace H:=hN H ea
                 exact absurd H (by simp)
                replace H:=hN H du
                have dS:=decide_eq_false du
                clear du
                obtain⟨dW,cr⟩: ∃y_:List Int,y_=(ac.set (I:Int).toNat (48+((((((rd ac I)-48)%256)+ak)%256)%10))):=⟨_,rfl⟩
                replace H:(zaz.l1 k4 dW ((((((rd ac I)-48)%256)+ak)%256) / 10) (wrap64 (I-1)) D A B E)=some (r1,r2,r3):=by first|(rw[cr];with_reducible exact H)|(have ax:=(Option.bind_some _ _).symm.trans H;rw[cr];with_reducible exact ax)|(have ax:=(Option.bind_some _ _).symm.trans H;with_reducible exact ax)|with_reducible exact H|(rw[cr];exact H)|exact H
                have eS:=zaa.mk cr
                clear cr
                have H':=zaa.mk H
                clear H
                have aE:0≤(I:Int):=of_decide_eq_true (by first|(with_reducible assumption)|assumption)
                have aF:I<(ac.length:Int):=of_decide_eq_true (by first|(with_reducible assumption)|assumption)
                obtain⟨dU,cV,aG⟩:=Kd.at_int (Kd.R_reads' U.out).2.2 I aE aF
                cases cV
                replace aE:=eq_true aE
                replace aF:=eq_true aF
                have id:=ag.out
                have ie:=ah.out
                have ig:=Z.out
                have ih:=aa.out
                obtain⟨f2,f3,f4,f5⟩:=cz2 (W:=wr) J
                have ij:=ad.out
                have ik:=ae.out
                obtain⟨f6,f7,f8,f9⟩:=cz2 (W:=wr) K
                have eU:0≤(I:Int):=of_decide_eq_true (by first|(with_reducible assumption)|assumption)
                have eV:(I:Int)<((ac.length:Int):Int):=of_decide_eq_true (by first|(with_reducible assumption)|assumption)
                obtain⟨dY,iN,eq,er,ga,iO,et⟩:=Kd.R_form U.out (by omega)
                (first|cases eq|(injection eq with ea_ en_ ec_;(first|subst ea_|(injection ea_ with ea_;subst ea_));subst ec_;clear en_))
                have gb:=zaa.mk er
                have iP:=zaa.mk et
                clear er ga et
                (first|simp only[add_plain] at aG|skip)
                obtain⟨gu,gv⟩:=Kd.R_celln 0 U.out (I:Int) eU eV
                replace eU:=eq_true eU
                replace eV:=eq_true eV
                have dl:=Kd.R_putg U.out (I:Int) (48+((((((rd ac I)-48)%256)+ak)%256)%10))
                go_wp2_with (first|((with_reducible refine zcp (t:=5) (p:=121) rfl ?_);(try(rw[zbe wr];generalize av:World.drewN wr _=wr;have an:=zaa.mk (Kd.R_at av U.out);have ao:=zaa.mk (zbO av J.out);have ap:=zaa.mk (zbO av K.out);have ar:=zaa.mk (zbO av M.out);have au:=zaa.mk (zcX av HB.out);clear av U J K M HB;have U:=an;have J:=ao;have K:=ap;have M:=ar;have HB:=au;clear an ao ap ar au;(try(have dl:=Kd.R_putg U.out (I:Int) (48+((((((rd ac I)-48)%256)+ak)%256)%10))))));refine zce (t:=5) (p:=121) (v:=?vo_w96) (w1:=(wr.setCell ⟨dY,(I:Int).toNat,none⟩ (.int .u8 (48+((((((rd ac I)-48)%256)+ak)%256)%10))))) ?hg ?ho ?hn ?hr ?_;(case ho=>rfl);(case hg=>rfl);(case hn=>rfl);(case hr=>first|(go_simp;done)|(go_simp;rfl));intro eW hw;have hg:wr.grownBy eW (some dY):=(by rw[hw];exact dl.2);have hp_:Kd.R (Kd.int .u8) 5 eW w.heap.size (fun _=>True) (.slice (some ⟨dY,0,none⟩) ac.length aA) dW:=(by rw[hw,eS.out];exact dl.1);clear dl;have an:=zaa.mk (hp_);have ao:=zaa.mk (zbv (g:=af) (o:=.cells #[.string D,.int .i64 A] 42 (0,0)) bk hg (Kd.R_ne U.out J.out (by decide)));have ap:=zaa.mk (zbv (g:=aj) (o:=.cells #[.string B,.int .i64 E] 42 (0,0)) bk hg (Kd.R_ne U.out K.out (by decide)));have ar:=zaa.mk (zbv (g:=ai) (o:=.cells #[.string (⟨#[]⟩:ByteArray),.int .i64 0] 42 (0,0)) bk hg (Kd.R_ne U.out M.out (by decide)));have au:=zaa.mk ((by rw[hw];exact zbL (HB.out) gb.out:Below w.heap.size w eW));clear U;clear J;clear K;clear M;clear HB;have U:=an;have J:=ao;have K:=ap;have M:=ar;have HB:=au;clear an ao ap ar au;clear hg hw hp_))
                (try simp only[←al])
                go_roundg k4
                case measure=>have:=bQ.out;have:=cG.out;have:=cC.out;have:=dr.out;omega
                case rel=>exact⟨(dW),((((((rd ac I)-48)%256)+ak)%256) / 10),(wrap64 (I-1)),rz,rz,H',⟨by have:=bQ.out;have:=cG.out;have:=cC.out;have:=dr.out;omega⟩,⟨by(try simp only[O]);(try simp only[ab]);(try simp only[al]);(with_reducible repeat(first|apply Kd.R_alloc|apply Kd.R_drewN|apply Kd.R_drew));exact U.out⟩,⟨by(try simp only[O]);(try simp only[ab]);(try simp only[al]);(with_reducible repeat(first|refine zbk ?_ _|refine zaw ?_|refine zbj ?_ _));exact J.out⟩,⟨by(try simp only[O]);(try simp only[ab]);(try simp only[al]);(with_reducible repeat(first|refine zbk ?_ _|refine zaw ?_|refine zbj ?_ _));exact K.out⟩,⟨by(try simp only[O]);(try simp only[ab]);(try simp only[al]);(with_reducible repeat(first|refine zbk ?_ _|refine zaw ?_|refine zbj ?_ _));exact M.out⟩,⟨bz⟩⟩
               replace H:=hN H dt
               have dR:decide (0≤(wrap64 ((wrap64 (I-1))-(wrap64 (A-E)))))=false:=decide_eq_false dt
               clear dt
               obtain⟨dZ,ct⟩: ∃y_:List Int,y_=(ac.set (I:Int).toNat (48+((((((rd ac I)-48)%256)+ak)%256)%10))):=⟨_,rfl⟩
               replace H:(zaz.l1 k4 dZ ((((((rd ac I)-48)%256)+ak)%256) / 10) (wrap64 (I-1)) D A B E)=some (r1,r2,r3):=by first|(rw[ct];with_reducible exact H)|(have ax:=(Option.bind_some _ _).symm.trans H;rw[ct];with_reducible exact ax)|(have ax:=(Option.bind_some _ _).symm.trans H;with_reducible exact ax)|with_reducible exact H|(rw[ct];exact H)|exact H
               have eX:=zaa.mk ct
               clear ct
               have H':=zaa.mk H
               clear H
               have aE:0≤(I:Int):=of_decide_eq_true (by first|(with_reducible assumption)|assumption)
               have aF:I<(ac.length:Int):=of_decide_eq_true (by first|(with_reducible assumption)|assumption)
               obtain⟨dU,cV,aG⟩:=Kd.at_int (Kd.R_reads' U.out).2.2 I aE aF
               cases cV
               replace aE:=eq_true aE
               replace aF:=eq_true aF
               have il:=ag.out
               have im:=ah.out
               have io:=Z.out
               have ip:=aa.out
               obtain⟨e0,e1,e2,e3⟩:=cz2 (W:=wr) J
               have gw:=ad.out
               have gx:=ae.out
               obtain⟨e4,e5,e6,e7⟩:=cz2 (W:=wr) K
               have eY:0≤(I:Int):=of_decide_eq_true (by first|(with_reducible assumption)|assumption)
               have eZ:(I:Int)<((ac.length:Int):Int):=of_decide_eq_true (by first|(with_reducible assumption)|assumption)
               obtain⟨d0,iQ,eu,ev,ge,iR,ew⟩:=Kd.R_form U.out (by omega)
               (first|cases eu|(injection eu with ea_ en_ ec_;(first|subst ea_|(injection ea_ with ea_;subst ea_));subst ec_;clear en_))
               have gf:=zaa.mk ev
               have iS:=zaa.mk ew
               clear ev ge ew
               (first|simp only[add_plain] at aG|skip)
               obtain⟨gy,gA⟩:=Kd.R_celln 0 U.out (I:Int) eY eZ
               replace eY:=eq_true eY
               replace eZ:=eq_true eZ
               have cH:=Kd.R_putg U.out (I:Int) (48+((((((rd ac I)-48)%256)+ak)%256)%10))
               go_wp2_with (first|((with_reducible refine zcp (t:=5) (p:=121) rfl ?_);(try(rw[zbe wr];generalize av:World.drewN wr _=wr;have an:=zaa.mk (Kd.R_at av U.out);have ao:=zaa.mk (zbO av J.out);have ap:=zaa.mk (zbO av K.out);have ar:=zaa.mk (zbO av M.out);have au:=zaa.mk (zcX av HB.out);clear av U J K M HB;have U:=an;have J:=ao;have K:=ap;have M:=ar;have HB:=au;clear an ao ap ar au;(try(have cH:=Kd.R_putg U.out (I:Int) (48+((((((rd ac I)-48)%256)+ak)%256)%10))))));refine zce (t:=5) (p:=121) (v:=?vo_w104) (w1:=(wr.setCell ⟨d0,(I:Int).toNat,none⟩ (.int .u8 (48+((((((rd ac I)-48)%256)+ak)%256)%10))))) ?hg ?ho ?hn ?hr ?_;(case ho=>rfl);(case hg=>rfl);(case hn=>rfl);(case hr=>first|(go_simp;done)|(go_simp;rfl));intro d5 hw;have hg:wr.grownBy d5 (some d0):=(by rw[hw];exact cH.2);have hp_:Kd.R (Kd.int .u8) 5 d5 w.heap.size (fun _=>True) (.slice (some ⟨d0,0,none⟩) ac.length aA) dZ:=(by rw[hw,eX.out];exact cH.1);clear cH;have an:=zaa.mk (hp_);have ao:=zaa.mk (zbv (g:=af) (o:=.cells #[.string D,.int .i64 A] 42 (0,0)) bk hg (Kd.R_ne U.out J.out (by decide)));have ap:=zaa.mk (zbv (g:=aj) (o:=.cells #[.string B,.int .i64 E] 42 (0,0)) bk hg (Kd.R_ne U.out K.out (by decide)));have ar:=zaa.mk (zbv (g:=ai) (o:=.cells #[.string (⟨#[]⟩:ByteArray),.int .i64 0] 42 (0,0)) bk hg (Kd.R_ne U.out M.out (by decide)));have au:=zaa.mk ((by rw[hw];exact zbL (HB.out) gf.out:Below w.heap.size w d5));clear U;clear J;clear K;clear M;clear HB;have U:=an;have J:=ao;have K:=ap;have M:=ar;have HB:=au;clear an ao ap ar au;clear hg hw hp_))
               (try simp only[←al])
               go_roundg k4
               case measure=>have:=bQ.out;have:=cG.out;have:=cC.out;have:=dr.out;omega
               case rel=>exact⟨(dZ),((((((rd ac I)-48)%256)+ak)%256) / 10),(wrap64 (I-1)),rz,rz,H',⟨by have:=bQ.out;have:=cG.out;have:=cC.out;have:=dr.out;omega⟩,⟨by(try simp only[O]);(try simp only[ab]);(try simp only[al]);(with_reducible repeat(first|apply Kd.R_alloc|apply Kd.R_drewN|apply Kd.R_drew));exact U.out⟩,⟨by(try simp only[O]);(try simp only[ab]);(try simp only[al]);(with_reducible repeat(first|refine zbk ?_ _|refine zaw ?_|refine zbj ?_ _));exact J.out⟩,⟨by(try simp only[O]);(try simp only[ab]);(try simp only[al]);(with_reducible repeat(first|refine zbk ?_ _|refine zaw ?_|refine zbj ?_ _));exact K.out⟩,⟨by(try simp only[O]);(try simp only[ab]);(try simp only[al]);(with_reducible repeat(first|refine zbk ?_ _|refine zaw ?_|refine zbj ?_ _));exact M.out⟩,⟨bz⟩⟩
              replace H:=hN H d9
              exact absurd H (by simp)
             replace H:=hN H d8
             exact absurd H (by simp)
            replace H:=hN H ds
            have eM:decide (0≤I)=false:=decide_eq_false ds
            clear ds
            replace H:=bs H
            obtain⟨⟨cu,ey⟩,gg,H⟩:=H
            dsimp only at H
            have gB:=zdn (P:=Tryz.prog) Tryz.underlying51 Tryz.underlying5 Tryz.underlying9 (Kd.own_of_R U.out)
            have gC:=ag.out
            have gD:=ah.out
            have gE:=Z.out
            have gF:=aa.out
            obtain⟨e8,e9,fa,fb⟩:=cz2 (W:=wr) J
            go_upto_if 132 with(first|(go_at_call 49;(with_reducible refine(zbb.calls (strOfNums ac) (wrap64 (A+1)) cu ey _ gg.out).mono ?_);rintro e iT ⟨rfl,hb⟩;have an:=zaa.mk (Kd.R_below (by(with_reducible repeat(first|apply Kd.R_alloc|apply Kd.R_drewN|apply Kd.R_drew));exact U.out) hb);have ao:=zaa.mk (zag (g:=af) (o:=.cells #[.string D,.int .i64 A] 42 (0,0)) bk hb);have ap:=zaa.mk (zag (g:=aj) (o:=.cells #[.string B,.int .i64 E] 42 (0,0)) bk hb);have ar:=zaa.mk (zag (g:=ai) (o:=.cells #[.string (⟨#[]⟩:ByteArray),.int .i64 0] 42 (0,0)) bk hb);have au:=zaa.mk (zam bz hb);clear U;clear J;clear K;clear M;clear HB;have U:=an;have J:=ao;have K:=ap;have M:=ar;have HB:=au;clear an ao ap ar au;(try clear hb);(try clear fA);(try clear hk);(try clear hi))|((with_reducible refine zak (N:=14) rfl ?_);(try(refine zcq (by rfl) ?_;dsimp only));refine zaj rfl (N:=14) rfl (cs:=#[.string (⟨#[]⟩:ByteArray),.int .i64 0]) (t:=42) gz ?_;intro aH hg dm hbox hb;have an:=zaa.mk (Kd.R_below (by(with_reducible repeat(first|apply Kd.R_alloc|apply Kd.R_drewN|apply Kd.R_drew));exact U.out) hb);have ao:=zaa.mk (zag (g:=af) (o:=.cells #[.string D,.int .i64 A] 42 (0,0)) bk hb);have ap:=zaa.mk (zag (g:=aj) (o:=.cells #[.string B,.int .i64 E] 42 (0,0)) bk hb);have ar:=zaa.mk (zag (g:=ai) (o:=.cells #[.string (⟨#[]⟩:ByteArray),.int .i64 0] 42 (0,0)) bk hb);have au:=zaa.mk (zam bz hb);have gh:=zaa.mk (hbox);have gi:=zaa.mk ((by rw[hg];exact(zaI bz):w.heap.size≤aH));have gj:=zaa.mk ((by rw[hg];exact(zaI bz):w.heap.size≤aH));have gl:=zaa.mk ((by rw[hg];exact Nat.ne_of_lt (za3 (g:=af) (o:=.cells #[.string D,.int .i64 A] 42 (0,0)) bk):af≠aH));have gm:=zaa.mk ((by rw[hg];exact Nat.ne_of_gt (za3 (g:=af) (o:=.cells #[.string D,.int .i64 A] 42 (0,0)) bk):aH≠af));have eA:=zaa.mk ((by rw[hg];exact Nat.ne_of_lt (za3 (g:=aj) (o:=.cells #[.string B,.int .i64 E] 42 (0,0)) bk):aj≠aH));have eB:=zaa.mk ((by rw[hg];exact Nat.ne_of_gt (za3 (g:=aj) (o:=.cells #[.string B,.int .i64 E] 42 (0,0)) bk):aH≠aj));have eC:=zaa.mk ((by rw[hg];exact Nat.ne_of_lt (za3 (g:=ai) (o:=.cells #[.string (⟨#[]⟩:ByteArray),.int .i64 0] 42 (0,0)) bk):ai≠aH));have eD:=zaa.mk ((by rw[hg];exact Nat.ne_of_gt (za3 (g:=ai) (o:=.cells #[.string (⟨#[]⟩:ByteArray),.int .i64 0] 42 (0,0)) bk):aH≠ai));clear U;clear J;clear K;clear M;clear HB;have U:=an;have J:=ao;have K:=ap;have M:=ar;have HB:=au;have d6:=gh;have iq:=gi;have ir:=gj;have cv:=gl;have cw:=gm;have cx:=eA;have cy:=eB;have aN:=eC;have aO:=eD;clear an ao ap ar au gh gi gj gl gm eA eB eC eD;clear hb hbox hg;have gG:=cw.out;have gH:=cv.out;have gI:=cy.out;have gJ:=cx.out;have gK:=aO.out;have gL:=aN.out;obtain⟨fc,fe,fg,fh⟩:=cz2 (W:=dm) d6))
            (try simp only[Act.put,List.setIfInBounds_toArray,List.set_cons_zero,List.set_cons_succ])
            by_cases cD:(cu.size:Int)>2000
            ·replace H:=hE H cD
             have cI:decide (2000<(cu.size:Int))=true:=decide_eq_true cD
             have cJ:decide (2000<cu.size)=true:=decide_eq_true (by omega)
             clear cD
             try first|rw[cI]|rw[cJ]
             simp only[Option.some.injEq,Prod.mk.injEq] at H
             obtain⟨rfl,rfl,rfl⟩:=H
             have gM:=aa.out
             have gO:=Z.out
             have gP:=ae.out
             have gQ:=ad.out
             have gR:=aN.out
             have gS:=aO.out
             obtain⟨fi,fj,fk,fl⟩:=cz2 (W:=dm) M
             go_wp2
             refine bodyPost_ret (zaM rfl _ _ ai 42 #[.string (⟨#[]⟩:ByteArray),.int .i64 0] (0,0) _ rfl bk Tryz.underlying42 rfl (by kernel_rfl)) rfl ?_
             exact⟨by first|rfl|(simp[zan,zao]<;>rfl)|(simp only[←b5,←b6];first|rfl|(simp[zan,zao]<;>rfl))|(simp[*,zan,zao]<;>rfl),bz⟩
            replace H:=hN H cD
            have cI:decide (2000<(cu.size:Int))=false:=decide_eq_false cD
            have cJ:decide (2000<cu.size)=false:=decide_eq_false (by omega)
            clear cD
            try first|rw[cI]|rw[cJ]
            simp only[Option.some.injEq,Prod.mk.injEq] at H
            obtain⟨rfl,rfl,rfl⟩:=H
            have gT:=cw.out
            have gU:=cv.out
            have gV:=cy.out
            have gW:=cx.out
            have gX:=aO.out
            have gY:=aN.out
            obtain⟨fm,fo,fp,fq⟩:=cz2 (W:=dm) d6
            have gZ:=aa.out
            have g0:=Z.out
            have g1:=ae.out
            have g2:=ad.out
            obtain⟨fs,ft,fu,fv⟩:=cz2 (W:=dm) M
            go_wp2
            refine bodyPost_ret (zaM rfl _ _ ai 42 #[.string cu,.int .i64 ey] (0,0) _ rfl bk Tryz.underlying42 rfl (by kernel_rfl)) rfl ?_
            exact⟨by first|rfl|(simp[zan,zao]<;>rfl)|(simp only[←b5,←b6];first|rfl|(simp[zan,zao]<;>rfl))|(simp[*,zan,zao]<;>rfl),bz⟩
     replace H:=hN H cL
     exact absurd H (by simp)
    replace H:=hN H cK
    exact absurd H (by simp)
 replace H:=hN H cF
 obtain⟨aI,aJ⟩:=eF cF
 try first|rw[aI]|rw[aJ]
 simp only[Option.some.injEq,Prod.mk.injEq] at H
 obtain⟨rfl,rfl,rfl⟩:=H
 have g3:=aa.out
 have g4:=Z.out
 have g5:=ae.out
 have g6:=ad.out
 obtain⟨fw,fx,fy,fz⟩:=cz2 (W:=b0) M
 go_wp2
 refine bodyPost_ret (zaM rfl _ _ ai 42 #[.string (⟨#[]⟩:ByteArray),.int .i64 0] (0,0) _ rfl bk Tryz.underlying42 rfl (by kernel_rfl)) rfl ?_
 exact⟨ez,bz⟩
end Go.Proofs.YtecpgdfnamkfdaaGreatDoor.Fn
end
section
namespace Go.Proofs.YtecpgdfnamkfdaaGreatDoor.Fn
open Go.RowKit Go.Proofs.YtecpgdfnamkfdaaGreatDoorW.PrintWords
def Bts(w:World)(e:TypeId)(g:Nat)(xs:List Int):Prop:=
  ∃cur lo hi,w.heap[g]? =some (.cells cur e (lo,hi))∧xs.length≤cur.size∧cur.size≤lo∧cur.toList.take xs.length=nums .u8 xs
theorem Bts.made(w:World)(e:TypeId)(s:ByteArray):Bts (Lib.bytesWorld w e s) e w.heap.size (bytesOf s):=by
  have hb:s.size≤(Lib.bytesCells w e s).size:=by
    unfold Lib.bytesCells
    rw[Array.size_append,Array.size_map]
    exact Nat.le_add_right _ _
  refine⟨_,_,_,Lib.bytesWorld_at_new w e s,by rw[bytesOf_length];exact hb,Nat.le_refl _,?_⟩
  rw[bytesOf_length]
  unfold Lib.bytesCells
  rw[Array.toList_append,List.take_append_of_le_length (by rw[Array.length_toList,Array.size_map];exact Nat.le_refl _),List.take_of_length_le (by rw[Array.length_toList,Array.size_map];exact Nat.le_refl _)]
  simp[nums,bytesOf]
theorem Bts.cell{w:World}{e:TypeId}{g:Nat}{xs:List Int}(h:Bts w e g xs)(i:Nat)(hi:i<xs.length):w.cell? ⟨g,i,none⟩=some (.int .u8 (rd xs i)):=by
  obtain⟨cur,lo,hi',hg,hl,_,ht⟩:=h
  rw[cell_of_row w g i cur e (lo,hi') hg]
  have h2:(cur.toList.take xs.length)[i]? =(nums .u8 xs)[i]? :=by rw[ht]
  rw[List.getElem?_take_of_lt hi,Array.getElem?_toList] at h2
  rw[h2]
  simp[nums,rd,List.getElem?_eq_getElem hi,List.getD_eq_getElem?_getD]
theorem Bts.free{w:World}{e:TypeId}{g:Nat}{xs:List Int}(h:Bts w e g xs)(i:Nat)(hi:i<xs.length):w.frozen? ⟨g,i,none⟩=false:=by
  obtain⟨cur,lo,hi',hg,hl,hlo,_⟩:=h
  simp[World.frozen?,hg]
  omega
theorem Bts.set{w:World}{e:TypeId}{g:Nat}{xs:List Int}(h:Bts w e g xs)(i:Nat)(y:Int):Bts (w.setCell ⟨g,i,none⟩ (.int .u8 y)) e g (xs.set i y):=by
  obtain⟨cur,lo,hi',hg,hl,hlo,ht⟩:=h
  refine⟨cur.setIfInBounds i (.int .u8 y),lo,hi',?_,by simpa using hl,by simpa using hlo,?_⟩
  · have hlt:g<w.heap.size:=(Array.getElem?_eq_some_iff.1 hg).1
    have hv:w.heap[g]= .cells cur e (lo,hi'):=(Array.getElem?_eq_some_iff.1 hg).2
    unfold World.setCell
    rw[Array.getElem?_eq_getElem (by simpa using hlt),Array.getElem_modify]
    simp[hv]
  · rw[List.length_set,Array.toList_setIfInBounds,List.take_set,ht]
    simp[nums,List.map_set]
theorem Bts.text{P:Program}{w:World}{e src dst:TypeId}{g cap:Nat}{xs:List Int}(h:Bts w e g xs)(hs:P.underlying src=some (.slice e))(he:P.underlying e=some (.int .u8))(hd:P.underlying dst=some .string):
    (convert src dst (.slice (some ⟨g,0,none⟩) xs.length cap)).run P w= .ok (.string (strOfNums xs)) w:=
  run_convert_bytes_arg w src e hs he g 0 xs.length cap xs rfl (fun i hi=>by
    have:=h.cell i hi
    rw[Nat.zero_add]
    exact this) dst hd
end Go.Proofs.YtecpgdfnamkfdaaGreatDoor.Fn
end
section
namespace Go.Proofs.YtecpgdfnamkfdaaGreatDoor.Fn
open Go.RowKit Go.Proofs.YtecpgdfnamkfdaaGreatDoorW.PrintWords
set_option linter.unusedVariables false
set_option linter.unusedSimpArgs false
def upGo(xs:List Int):Nat→List Int
  |0=>49::xs
  |j+1=>if rd xs j<57 then xs.set j (rd xs j+1) else upGo (xs.set j 48) j
def zbP.f(s:ByteArray):Option ByteArray:=if s.size≤100000 then some (strOfNums (upGo (bytesOf s) s.size)) else none
theorem ziv{xs:List Int}(h: ∀x∈xs,0≤x)(j:Nat)(y:Int)(hy:0≤y): ∀x∈xs.set j y,0≤x:=by
  intro x hx
  rcases List.mem_or_eq_of_mem_set hx with h1|h1
  · exact h x h1
  · rw[h1];exact hy
theorem zji{xs:List Int}(h: ∀x∈xs,0≤x)(i:Int):0≤rd xs i:=by
  unfold rd
  rw[List.getD_eq_getElem?_getD]
  cases hg:xs[i.toNat]? with
  |none=>simp
  |some x=>exact h x (List.mem_of_getElem? hg)
theorem zgL(xs:List Int):(⟨#[49]⟩:ByteArray)++strOfNums xs=strOfNums (49::xs):=by
  apply ByteArray.ext
  rw[ByteArray.data_append]
  simp[strOfNums]
set_option maxHeartbeats 4000000 in
set_option maxRecDepth 100000 in
theorem zbP.calls(a0 r:ByteArray)(w:World)(h:zbP.f a0=some r):
    Calls Tryz.prog 81 #[.string a0] w fun e w'=>e= .returned (.string r)∧Below w.heap.size w w':=by
  unfold zbP.f at h
  split at h
  case isFalse=>cases h
  rename_i hsz
  obtain rfl:=Option.some.inj h
  clear h
  have kc:=fun W=>zdZ (P:=Tryz.prog) 9 51 5 Tryz.underlying9 Tryz.underlying51 Tryz.underlying5 a0 W
  have HM:=zaa.mk (Bts.made w 5 a0)
  have HB:=zaa.mk (zdc (Below.refl w.heap.size w) (Nat.le_refl _) 5 a0)
  have hlen:(bytesOf a0).length=a0.size:=bytesOf_length a0
  have hpos: ∀x∈bytesOf a0,0≤x:=by
    intro x hx
    simp only[bytesOf,List.mem_map] at hx
    obtain⟨b,_,rfl⟩:=hx
    omega
  have HP:=zaa.mk hpos
  have HL:=zaa.mk hlen
  clear hpos hlen
  go_enter Tryz.func81,Tryz.ntmps81
  go_wp2
  clear kc
  generalize grownCap w a0.size 0 5=cap
  generalize J:Lib.bytesWorld w 5 a0=w1 at HM HB ⊢
  clear J
  go_loopw [4] (fun i wr=> ∃(j:Nat) (xs:List Int),j≤a0.size∧i= .int .i64 ((j:Int)-1)∧zaa (xs.length=a0.size)∧zaa (∀x∈xs,0≤x)∧zaa (upGo xs j=upGo (bytesOf a0) a0.size)∧zaa (Bts wr 5 w.heap.size xs)∧zaa (Below w.heap.size w wr)) (fun i _=>(intOf i+1).toNat)
  case atStart=>exact⟨a0.size,bytesOf a0,Nat.le_refl _,rfl,HL,HP,⟨rfl⟩,HM,HB⟩
  case round=>
    obtain⟨j,xs,hj,rfl,B,I,HU,A,D⟩:=hrel
    cases j with
    |zero=>
      have ht:=A.out.text (P:=Tryz.prog) (src:=51) (dst:=9) (cap:=cap) Tryz.underlying51 Tryz.underlying5 Tryz.underlying9
      rw[B.out] at ht
      have K:1+(strOfNums xs).size≤9223372036854775807:=by rw[strOfNums_size,B.out];omega
      go_wp2
      go_ret
      refine⟨?_,D.out⟩
      rw[zgL,←HU.out]
      rfl
    |succ m=>
      have hm:m<a0.size:=hj
      have hml:m<xs.length:=by rw[B.out];exact hm
      have hc:=A.out.cell m hml
      have hf:=A.out.free m hml
      have hx:=zji I.out (m:Int)
      rw[show(((m+1:Nat):Int)-1)=(m:Int) by omega]
      have HU':zaa ((if rd xs m<57 then xs.set m (rd xs m+1) else upGo (xs.set m 48) m)=upGo (bytesOf a0) a0.size):=⟨HU.out⟩
      by_cases hlt:rd xs m<57
      · have hS:=A.out.set m (rd xs m+1)
        have HS:=zaa.mk hS
        have E:=zaa.mk ((if_pos hlt).symm.trans HU'.out)
        clear hS HU'
        have ht:=HS.out.text (P:=Tryz.prog) (src:=51) (dst:=9) (cap:=cap) Tryz.underlying51 Tryz.underlying5 Tryz.underlying9
        rw[List.length_set,B.out] at ht
        have HBB:=zaa.mk (zbL D.out (Nat.le_refl _):Below w.heap.size w (wr.setCell ⟨w.heap.size,m,none⟩ (.int .u8 (rd xs m+1))))
        generalize rd xs m=x at*
        clear A
        go_wp2
        go_ret
        refine⟨?_,HBB.out⟩
        rw[E.out]
        rfl
      · have E:=zaa.mk ((if_neg hlt).symm.trans HU'.out)
        clear HU'
        go_wp2
        go_roundw
        case rel=>exact⟨m,xs.set m 48,by omega,by go_num,⟨by rw[List.length_set];exact B.out⟩,⟨ziv I.out m 48 (by omega)⟩,E,⟨A.out.set m 48⟩,⟨zbL D.out (Nat.le_refl _)⟩⟩
        case measure=>simp[intOf]
end Go.Proofs.YtecpgdfnamkfdaaGreatDoor.Fn
end
section
namespace Go.Proofs.YtecpgdfnamkfdaaGreatDoor.Fn
open Go.RowKit Go.Proofs.YtecpgdfnamkfdaaGreatDoorW.PrintWords Go.Proofs.YtecpgdfnamkfdaaGreatDoorW.PrintLast Go.Proofs.YtecpgdfnamkfdaaGreatDoorW.PrintMore
attribute [local go_sem] fnW_0 fnW_1 fnW_2 fnW_3 fnW_4 fnW_5 fnW_guard fnW_eql zaK zaL zaQ zaR
set_option linter.unusedVariables false
set_option linter.unusedSimpArgs false
mutual
def zaO.j0:Nat→Int→ByteArray→ByteArray→Bool→ByteArray→Int→Option (ByteArray×Int)
 |0,_,_,_,_,_,_=>none
 |k+1,x1,x5,x6,x7,A,B=>if(Op.bytesLess x6.toList ([53]:List UInt8))=true then(zaO.j1 k x1 x5 true A B) else(if x6.toList=([53]:List UInt8) then(zaO.j1 k x1 x5 (!x7) A B) else(zaO.j1 k x1 x5 false A B))
def zaO.j1:Nat→Int→ByteArray→Bool→ByteArray→Int→Option (ByteArray×Int)
 |0,_,_,_,_,_=>none
 |k+1,x1,x5,J,I,A=>if J=true then((zbb.f x5 A).bind fun B=>(some (B.1,B.2))) else((zbP.f x5).bind fun E=>((zbb.f E (wrap64 ((wrap64 (A+(E.size:Int)))-x1))).bind fun D=>(some (D.1,D.2))))
end
def zaO.f(k:Nat)(A:ByteArray)(B:Int)(a1:Int):Option (ByteArray×Int):=if a1<0 then(some ((⟨#[]⟩:ByteArray),0)) else(if a1≥(A.size:Int) then(some (A,B)) else(if 0≤a1 then(if a1≤(A.size:Int) then(if a1>0 then(if 0≤(wrap64 (a1-1)) then(if(wrap64 (a1-1))<((A.extract 0 (a1:Int).toNat).size:Int) then(zaO.j0 k a1 (A.extract 0 (a1:Int).toNat) (A.extract (a1:Int).toNat A.size) (((((bt (A.extract 0 (a1:Int).toNat) (wrap64 (a1-1)))-48)%256)%2)==1) A B) else(none)) else(none)) else(zaO.j0 k a1 (A.extract 0 (a1:Int).toNat) (A.extract (a1:Int).toNat A.size) false A B)) else(none)) else(none)))
set_option maxHeartbeats 8000000 in
set_option maxRecDepth 100000 in
theorem zaO.calls(k:Nat)(A:ByteArray)(E:Int)(a1:Int)(r1:ByteArray)(r2:Int)(w:World)(h:zaO.f k A E a1=some (r1,r2)):
  Calls Tryz.prog 51 #[.agg #[.string A,.int .i64 E],.int .i64 a1] w fun e w'=>e= .returned (.agg #[.string r1,.int .i64 r2])∧Below w.heap.size w w':=by
 have bS:=Tryz.underlying42
 have HB:=zaa.mk (Below.refl w.heap.size w)
 have H:(if a1<0 then(some ((⟨#[]⟩:ByteArray),0)) else(if a1≥(A.size:Int) then(some (A,E)) else(if 0≤a1 then(if a1≤(A.size:Int) then(if a1>0 then(if 0≤(wrap64 (a1-1)) then(if(wrap64 (a1-1))<((A.extract 0 (a1:Int).toNat).size:Int) then(zaO.j0 k a1 (A.extract 0 (a1:Int).toNat) (A.extract (a1:Int).toNat A.size) (((((bt (A.extract 0 (a1:Int).toNat) (wrap64 (a1-1)))-48)%256)%2)==1) A E) else(none)) else(none)) else(zaO.j0 k a1 (A.extract 0 (a1:Int).toNat) (A.extract (a1:Int).toNat A.size) false A E)) else(none)) else(none))))=some (r1,r2):=h
 clear h
 go_enter Tryz.func51,Tryz.ntmps51
 go_upto_if 9 with(first|((with_reducible refine zak (N:=2) rfl ?_);refine zaj rfl (N:=2) rfl (cs:=#[.string A,.int .i64 E]) (t:=42) gz ?_;intro B hg w3 hbox hb;have a2:=gN bz hg;have a3:=gN bz hg;have D:=zaa.mk hbox;replace HB:=bN bz hb;clear hb hbox hg)|((with_reducible refine zak (N:=4) rfl ?_);refine zaj rfl (N:=4) rfl (cs:=#[.string (⟨#[]⟩:ByteArray),.int .i64 0]) (t:=42) gz ?_;intro J hg w4 hbox hb;have a4:=gN bz hg;have a5:=gN bz hg;have K:=lN (g:=B) (cs:=#[.string A,.int .i64 E]) hg bk;have M:=rN (g:=B) (cs:=#[.string A,.int .i64 E]) hg bk;replace D:=kN (g:=B) (cs:=#[.string A,.int .i64 E]) hb bk;have I:=zaa.mk hbox;replace HB:=bN bz hb;clear hb hbox hg))
 repeat(go_quiet (first|((with_reducible refine zak (N:=2) rfl ?_);refine zaj rfl (N:=2) rfl (cs:=#[.string A,.int .i64 E]) (t:=42) gz ?_;intro B hg w3 hbox hb;have O:=zaa.mk (zam bz hb);have U:=zaa.mk (hbox);have X:=zaa.mk ((by rw[hg];exact(zaI bz):w.heap.size≤B));have ab:=zaa.mk ((by rw[hg];exact(zaI bz):w.heap.size≤B));clear HB;have HB:=O;have D:=U;have a2:=X;have a3:=ab;clear O U X ab;clear hb hbox hg)|((with_reducible refine zak (N:=4) rfl ?_);refine zaj rfl (N:=4) rfl (cs:=#[.string (⟨#[]⟩:ByteArray),.int .i64 0]) (t:=42) gz ?_;intro J hg w4 hbox hb;have O:=zaa.mk (zag (g:=B) (o:=.cells #[.string A,.int .i64 E] 42 (0,0)) bk hb);have U:=zaa.mk (zam bz hb);have X:=zaa.mk (hbox);have ab:=zaa.mk ((by rw[hg];exact(zaI bz):w.heap.size≤J));have a6:=zaa.mk ((by rw[hg];exact(zaI bz):w.heap.size≤J));have a7:=zaa.mk ((by rw[hg];exact Nat.ne_of_lt (za3 (g:=B) (o:=.cells #[.string A,.int .i64 E] 42 (0,0)) bk):B≠J));have a8:=zaa.mk ((by rw[hg];exact Nat.ne_of_gt (za3 (g:=B) (o:=.cells #[.string A,.int .i64 E] 42 (0,0)) bk):J≠B));clear D;clear HB;have D:=O;have HB:=U;have I:=X;have a4:=ab;have a5:=a6;have K:=a7;have M:=a8;clear O U X ab a6 a7 a8;clear hb hbox hg));go_upto_if 9 with(first|((with_reducible refine zak (N:=2) rfl ?_);refine zaj rfl (N:=2) rfl (cs:=#[.string A,.int .i64 E]) (t:=42) gz ?_;intro B hg w3 hbox hb;have O:=zaa.mk (zam bz hb);have U:=zaa.mk (hbox);have X:=zaa.mk ((by rw[hg];exact(zaI bz):w.heap.size≤B));have ab:=zaa.mk ((by rw[hg];exact(zaI bz):w.heap.size≤B));clear HB;have HB:=O;have D:=U;have a2:=X;have a3:=ab;clear O U X ab;clear hb hbox hg)|((with_reducible refine zak (N:=4) rfl ?_);refine zaj rfl (N:=4) rfl (cs:=#[.string (⟨#[]⟩:ByteArray),.int .i64 0]) (t:=42) gz ?_;intro J hg w4 hbox hb;have O:=zaa.mk (zag (g:=B) (o:=.cells #[.string A,.int .i64 E] 42 (0,0)) bk hb);have U:=zaa.mk (zam bz hb);have X:=zaa.mk (hbox);have ab:=zaa.mk ((by rw[hg];exact(zaI bz):w.heap.size≤J));have a6:=zaa.mk ((by rw[hg];exact(zaI bz):w.heap.size≤J));have a7:=zaa.mk ((by rw[hg];exact Nat.ne_of_lt (za3 (g:=B) (o:=.cells #[.string A,.int .i64 E] 42 (0,0)) bk):B≠J));have a8:=zaa.mk ((by rw[hg];exact Nat.ne_of_gt (za3 (g:=B) (o:=.cells #[.string A,.int .i64 E] 42 (0,0)) bk):J≠B));clear D;clear HB;have D:=O;have HB:=U;have I:=X;have a4:=ab;have a5:=a6;have K:=a7;have M:=a8;clear O U X ab a6 a7 a8;clear hb hbox hg)))
 (try simp only[Act.put,List.setIfInBounds_toArray,List.set_cons_zero,List.set_cons_succ])
 by_cases c5:a1<0
 ·replace H:=hE H c5
  have ag:=decide_eq_true c5
  clear c5
  try rw[ag]
  simp only[Option.some.injEq,Prod.mk.injEq] at H
  obtain⟨rfl,rfl⟩:=H
  have bU:=M.out
  have bV:=K.out
  obtain⟨aP,aQ,aR,aS⟩:=cz2 (W:=w4) I
  go_wp2
  repeat(go_quiet (fail);try go_wp2)
  refine bodyPost_ret (results_cell_row rfl _ _ J 42 #[.string (⟨#[]⟩:ByteArray),.int .i64 0] (0,0) _ rfl bk Tryz.underlying42 rfl (by kernel_rfl)) rfl ?_
  exact⟨ez,bz⟩
 replace H:=hN H c5
 have ag:=decide_eq_false c5
 clear c5
 try rw[ag]
 by_cases c8:a1≥(A.size:Int)
 ·replace H:=hE H c8
  have a9:decide ((A.size:Int)≤a1)=true:=decide_eq_true c8
  clear c8
  simp only[Option.some.injEq,Prod.mk.injEq] at H
  obtain⟨rfl,rfl⟩:=H
  have bW:=K.out
  have bX:=M.out
  obtain⟨ah,ai,aj,ak⟩:=cz2 (W:=w4) D
  obtain⟨al,am,an,ao⟩:=cz2 (W:=w4) I
  go_wp2
  repeat(go_quiet (fail);try go_wp2)
  refine bodyPost_ret (results_cell_row rfl _ _ J 42 #[.string A,.int .i64 E] (0,0) _ rfl bk Tryz.underlying42 rfl (by kernel_rfl)) rfl ?_
  exact⟨ez,bz⟩
 replace H:=hN H c8
 have a9:decide ((A.size:Int)≤a1)=false:=decide_eq_false c8
 clear c8
 by_cases aL:0≤a1
 ·replace H:=hE H aL
  have ba:=eq_true aL
  have bb:decide (0≤a1)=true:=decide_eq_true aL
  clear aL
  by_cases aM:a1≤(A.size:Int)
  ·replace H:=hE H aM
   have bc:=eq_true aM
   have bd:decide (a1≤(A.size:Int))=true:=decide_eq_true aM
   clear aM
   have be:=eq_true (of_decide_eq_true (by first|(with_reducible assumption)|assumption):0≤a1)
   have bf:=eq_true (of_decide_eq_true (by first|(with_reducible assumption)|assumption):a1≤(A.size:Int))
   have bg:=zaa.mk H
   clear H
   have bL:=K.out
   have bM:=M.out
   obtain⟨ap,ar,au,av⟩:=cz2 (W:=w4) D
   go_upto_region 6 with(fail)
   repeat(go_quiet (fail);go_upto_region 6 with(fail))
   go_cut [7] (fun v7 wc=> ∃(kq:Nat) (ad:Bool),v7= .bool ad∧zaa (zaO.j0 kq a1 (A.extract 0 (a1:Int).toNat) (A.extract (a1:Int).toNat A.size) ad A E=some (r1,r2))∧zaa (kq≤k)∧zaa (wc.heap[B]? =some (.cells #[.string A,.int .i64 E] 42 (0,0)))∧zaa (wc.heap[J]? =some (.cells #[.string (⟨#[]⟩:ByteArray),.int .i64 0] 42 (0,0)))∧zaa (Below w.heap.size w wc))
   case first=>
    have H:=bg.out
    clear bg
    by_cases aw:a1>0
    ·replace H:=hE H aw
     have ac:decide (0<a1)=true:=decide_eq_true aw
     clear aw
     try rw[ac]
     obtain⟨Y,ae⟩: ∃j_:Int,(wrap64 (a1-1))=j_:=⟨_,rfl⟩
     (first|rw[ae] at H|simp only[ae] at H)
     have bK:(IntKind.i64.wrap (a1-1))=Y:=(zad _).trans ae
     by_cases aX:0≤(Y)
     ·replace H:=hE H aX
      have bh:=decide_eq_true aX
      clear aX
      by_cases aN:(Y)<((A.extract 0 (a1:Int).toNat).size:Int)
      ·replace H:=hE H aN
       have bi:=decide_eq_true aN
       have bA:decide (Y<max a1 0)=true:=decide_eq_true (by have h_:(((A).extract 0 (a1:Int).toNat).size:Int)=max a1 0:=(by have hle_:a1≤(A.size:Int):=of_decide_eq_true (by assumption);simp[ByteArray.size_extract];omega);rw[←h_];exact aN)
       have bO:(Y<max a1 0)=True:=eq_true (of_decide_eq_true bA)
       clear aN
       have H':=zaa.mk H
       clear H
       have aY:0≤((Y):Int):=of_decide_eq_true (by first|(with_reducible assumption)|assumption)
       have aZ:(Y)<((A.extract 0 (a1:Int).toNat).size:Int):=of_decide_eq_true (by first|(with_reducible assumption)|assumption)
       have bw:=zch (A.extract 0 (a1:Int).toNat) (Y)
       replace aY:=eq_true aY
       replace aZ:=eq_true aZ
       go_wp2
       repeat(go_quiet (fail);try go_wp2)
       go_meet
       case rel=>exact⟨_,((((((bt (A.extract 0 (a1:Int).toNat) (Y))-48)%256)%2)==1)),(by first|rfl|(simp;done)|(simp only[←ae]<;>(first|rfl|simp))|(simp[*];done)),H',⟨by first|omega|exact Nat.le_refl _⟩,⟨bk⟩,⟨bk⟩,⟨bz⟩⟩
      replace H:=hN H aN
      exact absurd H (by simp)
     replace H:=hN H aX
     exact absurd H (by simp)
    replace H:=hN H aw
    have ac:decide (0<a1)=false:=decide_eq_false aw
    clear aw
    try rw[ac]
    have H':=zaa.mk H
    clear H
    go_wp2
    repeat(go_quiet (fail);try go_wp2)
    go_meet
    case rel=>exact⟨_,(false),rz,H',⟨by first|omega|exact Nat.le_refl _⟩,⟨bk⟩,⟨bk⟩,⟨bz⟩⟩
   case rest=>
    clear bg
    try clear c5
    try clear ag
    try clear c8
    try clear a9
    try clear aL
    try clear ba
    try clear bb
    try clear aM
    try clear bc
    try clear bd
    try clear be
    try clear bf
    try clear aw
    try clear ac
    try clear aX
    try clear bh
    try clear aN
    try clear bi
    try clear aY
    try clear aZ
    try clear bw
    try clear ah ai aj ak
    try clear al am an ao
    try clear ap ar au av
    try clear aP aQ aR aS
    try clear aY
    try clear aZ
    obtain⟨kq,ad,rfl,HA,bj,D,I,HB⟩:=hcut
    cases kq with
    |zero=>exact absurd HA.out (by simp[zaO.j0])
    |succ bE=>
     have H:=HA.out
     clear HA
     simp only[zaO.j0] at H
     have bl:=zaa.mk H
     clear H
     go_upto_region 7 with(fail)
     repeat(go_quiet (fail);go_upto_region 7 with(fail))
     go_cut [48] (fun bP wc=> ∃(kq:Nat) (aa:Bool),bP= .bool aa∧zaa (zaO.j1 kq a1 (A.extract 0 (a1:Int).toNat) aa A E=some (r1,r2))∧zaa (kq≤bE)∧zaa (wc.heap[B]? =some (.cells #[.string A,.int .i64 E] 42 (0,0)))∧zaa (wc.heap[J]? =some (.cells #[.string (⟨#[]⟩:ByteArray),.int .i64 0] 42 (0,0)))∧zaa (Below w.heap.size w wc))
     case first=>
      have H:=bl.out
      clear bl
      by_cases aO:(Op.bytesLess (A.extract (a1:Int).toNat A.size).toList ([53]:List UInt8))=true
      ·replace H:=hE H aO
       have af:(Op.bytesLess (A.extract (a1:Int).toNat A.size).toList ([53]:List UInt8))=true:=aO
       clear aO
       try rw[af]
       have H':=zaa.mk H
       clear H
       go_wp2
       repeat(go_quiet (fail);try go_wp2)
       go_meet
       case rel=>exact⟨_,(true),rz,H',⟨by have:=bj.out;first|omega|exact Nat.le_refl _⟩,⟨bk⟩,⟨bk⟩,⟨bz⟩⟩
      replace H:=hN H aO
      have af:(Op.bytesLess (A.extract (a1:Int).toNat A.size).toList ([53]:List UInt8))=false:=by simpa using aO
      clear aO
      try rw[af]
      by_cases ax:(A.extract (a1:Int).toNat A.size).toList=([53]:List UInt8)
      ·replace H:=hE H ax
       have bm:((A.extract (a1:Int).toNat A.size).toList==([53]:List UInt8))=true:=beq_iff_eq.mpr ax
       have bn:((A.extract (a1:Int).toNat A.size).toList !=([53]:List UInt8))=false:=bne_eq_false_iff_eq.mpr ax
       clear ax
       have H':=zaa.mk H
       clear H
       go_wp2
       repeat(go_quiet (fail);try go_wp2)
       go_meet
       case rel=>exact⟨_,(!ad),rz,H',⟨by have:=bj.out;first|omega|exact Nat.le_refl _⟩,⟨bk⟩,⟨bk⟩,⟨bz⟩⟩
      replace H:=hN H ax
      have bm:((A.extract (a1:Int).toNat A.size).toList==([53]:List UInt8))=false:=beq_eq_false_iff_ne.mpr ax
      have bn:((A.extract (a1:Int).toNat A.size).toList !=([53]:List UInt8))=true:=bne_iff_ne.mpr ax
      have H':=zaa.mk H
      clear H
      go_wp2
      repeat(go_quiet (fail);try go_wp2)
      go_meet
      case rel=>exact⟨_,(false),rz,H',⟨by have:=bj.out;first|omega|exact Nat.le_refl _⟩,⟨bk⟩,⟨bk⟩,⟨bz⟩⟩
     case rest=>
      clear bl
      try clear c5
      try clear ag
      try clear c8
      try clear a9
      try clear aL
      try clear ba
      try clear bb
      try clear aM
      try clear bc
      try clear bd
      try clear be
      try clear bf
      try clear aw
      try clear ac
      try clear aX
      try clear bh
      try clear aN
      try clear bi
      try clear aY
      try clear aZ
      try clear bw
      try clear aO
      try clear af
      try clear ax
      try clear bm
      try clear bn
      try clear ah ai aj ak
      try clear al am an ao
      try clear ap ar au av
      try clear aP aQ aR aS
      try clear aY
      try clear aZ
      obtain⟨kq,aa,rfl,HA,bY,D,I,HB⟩:=hcut
      cases kq with
      |zero=>exact absurd HA.out (by simp[zaO.j1])
      |succ bZ=>
       have H:=HA.out
       clear HA
       simp only[zaO.j1] at H
       by_cases bv:aa=true
       ·subst bv
        replace H:=hT H
        replace H:=bs H
        obtain⟨⟨aT,aU⟩,bB,H⟩:=H
        dsimp only at H
        simp only[Option.some.injEq,Prod.mk.injEq] at H
        obtain⟨rfl,rfl⟩:=H
        have bQ:=K.out
        have bR:=M.out
        obtain⟨bG,bH,bI,bJ⟩:=cz2 (W:=wc) D
        go_wp2_with (first|(go_at_call 49;(with_reducible refine(zbb.calls (A.extract 0 (a1:Int).toNat) E aT aU _ bB.out).mono ?_);rintro e bo ⟨rfl,hb⟩;replace D:=kN (g:=B) (cs:=#[.string A,.int .i64 E]) hb bk;replace I:=kN (g:=J) (cs:=#[.string (⟨#[]⟩:ByteArray),.int .i64 0]) hb bk;replace HB:=bN bz hb;(try clear hb);(try clear ay);(try clear hk);(try clear hi);obtain⟨az,aA,aB,aC⟩:=cz2 (W:=bo) I))
        repeat(go_quiet (first|(go_at_call 49;(with_reducible refine(zbb.calls (A.extract 0 (a1:Int).toNat) E aT aU _ bB.out).mono ?_);rintro e bo ⟨rfl,hb⟩;have O:=zaa.mk (zag (g:=B) (o:=.cells #[.string A,.int .i64 E] 42 (0,0)) bk hb);have U:=zaa.mk (zag (g:=J) (o:=.cells #[.string (⟨#[]⟩:ByteArray),.int .i64 0] 42 (0,0)) bk hb);have X:=zaa.mk (zam bz hb);clear D;clear I;clear HB;have D:=O;have I:=U;have HB:=X;clear O U X;(try clear hb);(try clear ay);(try clear hk);(try clear hi);obtain⟨az,aA,aB,aC⟩:=cz2 (W:=bo) I));try go_wp2_with (first|(go_at_call 49;(with_reducible refine(zbb.calls (A.extract 0 (a1:Int).toNat) E aT aU _ bB.out).mono ?_);rintro e bo ⟨rfl,hb⟩;have O:=zaa.mk (zag (g:=B) (o:=.cells #[.string A,.int .i64 E] 42 (0,0)) bk hb);have U:=zaa.mk (zag (g:=J) (o:=.cells #[.string (⟨#[]⟩:ByteArray),.int .i64 0] 42 (0,0)) bk hb);have X:=zaa.mk (zam bz hb);clear D;clear I;clear HB;have D:=O;have I:=U;have HB:=X;clear O U X;(try clear hb);(try clear ay);(try clear hk);(try clear hi);obtain⟨az,aA,aB,aC⟩:=cz2 (W:=bo) I)))
        refine bodyPost_ret (results_cell_row rfl _ _ J 42 #[.string aT,.int .i64 aU] (0,0) _ rfl bk Tryz.underlying42 rfl (by kernel_rfl)) rfl ?_
        exact⟨ez,bz⟩
       replace bv:=Bool.eq_false_iff.mpr bv
       subst bv
       replace H:=hF H
       replace H:=bs H
       obtain⟨Z,bC,H⟩:=H
       replace H:=bs H
       obtain⟨⟨aV,aW⟩,bD,H⟩:=H
       dsimp only at H
       simp only[Option.some.injEq,Prod.mk.injEq] at H
       obtain⟨rfl,rfl⟩:=H
       go_wp2_with (first|(go_at_call 81;(with_reducible refine(zbP.calls (A.extract 0 (a1:Int).toNat) Z _ bC.out).mono ?_);rintro e bp ⟨rfl,hb⟩;replace D:=kN (g:=B) (cs:=#[.string A,.int .i64 E]) hb bk;replace I:=kN (g:=J) (cs:=#[.string (⟨#[]⟩:ByteArray),.int .i64 0]) hb bk;replace HB:=bN bz hb;(try clear hb);(try clear ay);(try clear hk);(try clear hi);have bq:=K.out;have br:=M.out;obtain⟨aD,aE,aF,aG⟩:=cz2 (W:=bp) D)|(go_at_call 49;(with_reducible refine(zbb.calls Z (wrap64 ((wrap64 (E+(Z.size:Int)))-a1)) aV aW _ bD.out).mono ?_);rintro e bu ⟨rfl,hb⟩;replace D:=kN (g:=B) (cs:=#[.string A,.int .i64 E]) hb bk;replace I:=kN (g:=J) (cs:=#[.string (⟨#[]⟩:ByteArray),.int .i64 0]) hb bk;replace HB:=bN bz hb;(try clear hb);(try clear ay);(try clear hk);(try clear hi);obtain⟨aH,aI,aJ,aK⟩:=cz2 (W:=bu) I))
       repeat(go_quiet (first|(go_at_call 81;(with_reducible refine(zbP.calls (A.extract 0 (a1:Int).toNat) Z _ bC.out).mono ?_);rintro e bp ⟨rfl,hb⟩;have O:=zaa.mk (zag (g:=B) (o:=.cells #[.string A,.int .i64 E] 42 (0,0)) bk hb);have U:=zaa.mk (zag (g:=J) (o:=.cells #[.string (⟨#[]⟩:ByteArray),.int .i64 0] 42 (0,0)) bk hb);have X:=zaa.mk (zam bz hb);clear D;clear I;clear HB;have D:=O;have I:=U;have HB:=X;clear O U X;(try clear hb);(try clear ay);(try clear hk);(try clear hi);have bq:=K.out;have br:=M.out;obtain⟨aD,aE,aF,aG⟩:=cz2 (W:=bp) D)|(go_at_call 49;(with_reducible refine(zbb.calls Z (wrap64 ((wrap64 (E+(Z.size:Int)))-a1)) aV aW _ bD.out).mono ?_);rintro e bu ⟨rfl,hb⟩;have O:=zaa.mk (zag (g:=B) (o:=.cells #[.string A,.int .i64 E] 42 (0,0)) bk hb);have U:=zaa.mk (zag (g:=J) (o:=.cells #[.string (⟨#[]⟩:ByteArray),.int .i64 0] 42 (0,0)) bk hb);have X:=zaa.mk (zam bz hb);clear D;clear I;clear HB;have D:=O;have I:=U;have HB:=X;clear O U X;(try clear hb);(try clear ay);(try clear hk);(try clear hi);obtain⟨aH,aI,aJ,aK⟩:=cz2 (W:=bu) I));try go_wp2_with (first|(go_at_call 81;(with_reducible refine(zbP.calls (A.extract 0 (a1:Int).toNat) Z _ bC.out).mono ?_);rintro e bp ⟨rfl,hb⟩;have O:=zaa.mk (zag (g:=B) (o:=.cells #[.string A,.int .i64 E] 42 (0,0)) bk hb);have U:=zaa.mk (zag (g:=J) (o:=.cells #[.string (⟨#[]⟩:ByteArray),.int .i64 0] 42 (0,0)) bk hb);have X:=zaa.mk (zam bz hb);clear D;clear I;clear HB;have D:=O;have I:=U;have HB:=X;clear O U X;(try clear hb);(try clear ay);(try clear hk);(try clear hi);have bq:=K.out;have br:=M.out;obtain⟨aD,aE,aF,aG⟩:=cz2 (W:=bp) D)|(go_at_call 49;(with_reducible refine(zbb.calls Z (wrap64 ((wrap64 (E+(Z.size:Int)))-a1)) aV aW _ bD.out).mono ?_);rintro e bu ⟨rfl,hb⟩;have O:=zaa.mk (zag (g:=B) (o:=.cells #[.string A,.int .i64 E] 42 (0,0)) bk hb);have U:=zaa.mk (zag (g:=J) (o:=.cells #[.string (⟨#[]⟩:ByteArray),.int .i64 0] 42 (0,0)) bk hb);have X:=zaa.mk (zam bz hb);clear D;clear I;clear HB;have D:=O;have I:=U;have HB:=X;clear O U X;(try clear hb);(try clear ay);(try clear hk);(try clear hi);obtain⟨aH,aI,aJ,aK⟩:=cz2 (W:=bu) I)))
       refine bodyPost_ret (results_cell_row rfl _ _ J 42 #[.string aV,.int .i64 aW] (0,0) _ rfl bk Tryz.underlying42 rfl (by kernel_rfl)) rfl ?_
       exact⟨ez,bz⟩
  replace H:=hN H aM
  exact absurd H (by simp)
 replace H:=hN H aL
 exact absurd H (by simp)
end Go.Proofs.YtecpgdfnamkfdaaGreatDoor.Fn
end
section
namespace Go.Proofs.YtecpgdfnamkfdaaGreatDoor.Fn
open Go.RowKit Go.Proofs.YtecpgdfnamkfdaaGreatDoorW.PrintWords Go.Proofs.YtecpgdfnamkfdaaGreatDoorW.PrintLast Go.Proofs.YtecpgdfnamkfdaaGreatDoorW.PrintMore
set_option linter.unusedVariables false
set_option linter.unusedSimpArgs false
set_option maxHeartbeats 8000000
set_option maxRecDepth 100000
section
attribute [local go_sem] fnW_0 fnW_1 fnW_2 fnW_3 fnW_4 fnW_5 fnW_guard fnW_eql zaK zaL zaQ zaR
def zbp.f(k:Nat)(D:ByteArray)(E:Int)(a1:Int):Option (ByteArray×Int×Int):=(zaA.f k D E).bind fun A=>(if A.2.2=0 then((zaO.f k A.1 A.2.1 a1).bind fun B=>(some (B.1,B.2,0))) else(some ((⟨#[]⟩:ByteArray),0,A.2.2)))
theorem zbp.calls(k:Nat)(A:ByteArray)(B:Int)(a1:Int)(r1:ByteArray)(r2:Int)(r3:Int)(w:World)(h:zbp.f k A B a1=some (r1,r2,r3)):
  Calls Tryz.prog 32 #[.agg #[.string A,.int .i64 B],.int .i64 a1] w fun e w'=>e= .returned (.tuple #[.agg #[.string r1,.int .i64 r2],.int .i64 r3])∧Below w.heap.size w w':=by
 have aL:=Tryz.underlying42
 have HB:=zaa.mk (Below.refl w.heap.size w)
 have H:((zaA.f k A B).bind fun K=>(if K.2.2=0 then((zaO.f k K.1 K.2.1 a1).bind fun aa=>(some (aa.1,aa.2,0))) else(some ((⟨#[]⟩:ByteArray),0,K.2.2))))=some (r1,r2,r3):=h
 clear h
 replace H:=bs H
 obtain⟨⟨Y,Z,ac⟩,A3,H⟩:=H
 dsimp only at H
 go_enter Tryz.func32,Tryz.ntmps32
 go_upto_if 13 with(first|((with_reducible refine zak (N:=2) rfl ?_);refine zaj rfl (N:=2) rfl (cs:=#[.string A,.int .i64 B]) (t:=42) gz ?_;intro J hg w4 hbox hb;have aC:=gN bz hg;have I:=zaa.mk hbox;replace HB:=bN bz hb;clear hb hbox hg)|((with_reducible refine zak (N:=4) rfl ?_);refine zaj rfl (N:=4) rfl (cs:=#[.string (⟨#[]⟩:ByteArray),.int .i64 0]) (t:=42) gz ?_;intro M hg w5 hbox hb;have aD:=gN bz hg;have D:=lN (g:=J) (cs:=#[.string A,.int .i64 B]) hg bk;have E:=rN (g:=J) (cs:=#[.string A,.int .i64 B]) hg bk;replace I:=kN (g:=J) (cs:=#[.string A,.int .i64 B]) hb bk;have O:=zaa.mk hbox;replace HB:=bN bz hb;clear hb hbox hg;have aM:=D.out;have aN:=E.out;obtain⟨au,av,aw,ax⟩:=cz2 (W:=w5) I)|((with_reducible refine zac (f:=50) rfl ?_);refine zal (some 9) rfl rfl Tryz.func50 (by kernel_rfl) rfl #[.agg #[.string A,.int .i64 B]] rfl lz ?_;(with_reducible refine(zaA.calls k A B Y Z ac _ A3.out).mono ?_);rintro e w8 ⟨rfl,hb⟩;refine⟨_,rfl,?_⟩;replace I:=kN (g:=J) (cs:=#[.string A,.int .i64 B]) hb bk;replace O:=kN (g:=M) (cs:=#[.string (⟨#[]⟩:ByteArray),.int .i64 0]) hb bk;replace HB:=bN bz hb;(try clear hb);(try clear aE);(try clear hk);(try clear hi);obtain⟨ay,az,aA,aB⟩:=cz2 (W:=w8) I))
 (try simp only[Act.put,List.setIfInBounds_toArray,List.set_cons_zero,List.set_cons_succ])
 by_cases ab:ac=0
 ·replace H:=hE H ab
  obtain⟨U,X⟩:=eT ab
  clear ab
  try first|rw[U]|rw[X]
  replace H:=bs H
  obtain⟨⟨ad,ae⟩,aF,H⟩:=H
  dsimp only at H
  simp only[Option.some.injEq,Prod.mk.injEq] at H
  obtain⟨rfl,rfl,rfl⟩:=H
  have aG:=D.out
  have aH:=E.out
  obtain⟨af,ag,ah,ai⟩:=cz2 (W:=w8) I
  go_wp2_with (first|((with_reducible refine zac (f:=51) rfl ?_);refine zal (some 18) rfl rfl Tryz.func51 (by kernel_rfl) rfl #[.agg #[.string Y,.int .i64 Z],.int .i64 a1] rfl lz ?_;(with_reducible refine(zaO.calls k Y Z a1 ad ae _ aF.out).mono ?_);rintro e aI ⟨rfl,hb⟩;refine⟨_,rfl,?_⟩;replace I:=kN (g:=J) (cs:=#[.string Y,.int .i64 Z]) hb bk;replace O:=kN (g:=M) (cs:=#[.string (⟨#[]⟩:ByteArray),.int .i64 0]) hb bk;replace HB:=bN bz hb;(try clear hb);(try clear aE);(try clear hk);(try clear hi);obtain⟨aj,ak,al,am⟩:=cz2 (W:=aI) O))
  refine bodyPost_ret (zaM rfl _ _ M 42 #[.string ad,.int .i64 ae] (0,0) _ rfl bk Tryz.underlying42 rfl (by kernel_rfl)) rfl ?_
  exact⟨ez,bz⟩
 replace H:=hN H ab
 obtain⟨U,X⟩:=eF ab
 try first|rw[U]|rw[X]
 simp only[Option.some.injEq,Prod.mk.injEq] at H
 obtain⟨rfl,rfl,rfl⟩:=H
 have aJ:=E.out
 have aK:=D.out
 obtain⟨an,ao,ap,ar⟩:=cz2 (W:=w8) O
 go_wp2
 refine bodyPost_ret (zaM rfl _ _ M 42 #[.string (⟨#[]⟩:ByteArray),.int .i64 0] (0,0) _ rfl bk Tryz.underlying42 rfl (by kernel_rfl)) rfl ?_
 exact⟨ez,bz⟩
def zbJ.f(k:Nat)(D:ByteArray)(E:Int)(a1:Int):Option (ByteArray×Int×Int):=(zaA.f k D E).bind fun A=>(if A.2.2=0 then((zaO.f k A.1 A.2.1 (wrap64 (A.2.1+(mx (-20000) (mn a1 20000))))).bind fun B=>(some (B.1,B.2,0))) else(some ((⟨#[]⟩:ByteArray),0,A.2.2)))
theorem zbJ.calls(k:Nat)(A:ByteArray)(B:Int)(a1:Int)(r1:ByteArray)(r2:Int)(r3:Int)(w:World)(h:zbJ.f k A B a1=some (r1,r2,r3)):
  Calls Tryz.prog 33 #[.agg #[.string A,.int .i64 B],.int .i64 a1] w fun e w'=>e= .returned (.tuple #[.agg #[.string r1,.int .i64 r2],.int .i64 r3])∧Below w.heap.size w w':=by
 have aT:=Tryz.underlying42
 have HB:=zaa.mk (Below.refl w.heap.size w)
 have H:((zaA.f k A B).bind fun J=>(if J.2.2=0 then((zaO.f k J.1 J.2.1 (wrap64 (J.2.1+(mx (-20000) (mn a1 20000))))).bind fun ad=>(some (ad.1,ad.2,0))) else(some ((⟨#[]⟩:ByteArray),0,J.2.2))))=some (r1,r2,r3):=h
 clear h
 replace H:=bs H
 obtain⟨⟨ac,U,ag⟩,A3,H⟩:=H
 dsimp only at H
 go_enter Tryz.func33,Tryz.ntmps33
 go_upto_if 13 with(first|((with_reducible refine zak (N:=2) rfl ?_);refine zaj rfl (N:=2) rfl (cs:=#[.string A,.int .i64 B]) (t:=42) gz ?_;intro K hg w4 hbox hb;have aK:=gN bz hg;have I:=zaa.mk hbox;replace HB:=bN bz hb;clear hb hbox hg)|((with_reducible refine zak (N:=4) rfl ?_);refine zaj rfl (N:=4) rfl (cs:=#[.string (⟨#[]⟩:ByteArray),.int .i64 0]) (t:=42) gz ?_;intro Y hg w5 hbox hb;have aL:=gN bz hg;have D:=lN (g:=K) (cs:=#[.string A,.int .i64 B]) hg bk;have E:=rN (g:=K) (cs:=#[.string A,.int .i64 B]) hg bk;replace I:=kN (g:=K) (cs:=#[.string A,.int .i64 B]) hb bk;have Z:=zaa.mk hbox;replace HB:=bN bz hb;clear hb hbox hg;have aU:=D.out;have aV:=E.out;obtain⟨ay,az,aA,aB⟩:=cz2 (W:=w5) I)|((with_reducible refine zac (f:=50) rfl ?_);refine zal (some 9) rfl rfl Tryz.func50 (by kernel_rfl) rfl #[.agg #[.string A,.int .i64 B]] rfl lz ?_;(with_reducible refine(zaA.calls k A B ac U ag _ A3.out).mono ?_);rintro e w8 ⟨rfl,hb⟩;refine⟨_,rfl,?_⟩;replace I:=kN (g:=K) (cs:=#[.string A,.int .i64 B]) hb bk;replace Z:=kN (g:=Y) (cs:=#[.string (⟨#[]⟩:ByteArray),.int .i64 0]) hb bk;replace HB:=bN bz hb;(try clear hb);(try clear aM);(try clear hk);(try clear hi);obtain⟨aC,aD,aE,aF⟩:=cz2 (W:=w8) I))
 (try simp only[Act.put,List.setIfInBounds_toArray,List.set_cons_zero,List.set_cons_succ])
 by_cases ae:ag=0
 ·replace H:=hE H ae
  obtain⟨aa,ab⟩:=eT ae
  clear ae
  try first|rw[aa]|rw[ab]
  obtain⟨X,M⟩: ∃j_:Int,(mn a1 20000)=j_:=⟨_,rfl⟩
  (first|rw[M] at H|simp only[M] at H)
  (try(have aG:X≤20000:=by(rw[←M];unfold mn;(repeat' split)<;>omega)))
  (try(have aH:X≤64:=by omega))
  have aI:(if 20000<a1 then 20000 else a1)=X:=M
  obtain⟨af,O⟩: ∃j_:Int,(mx (-20000) (X))=j_:=⟨_,rfl⟩
  (first|rw[O] at H|simp only[O] at H)
  have aJ:(if(-20000)<(X) then(X) else(-20000))=af:=O
  replace H:=bs H
  obtain⟨⟨ah,ai⟩,aN,H⟩:=H
  dsimp only at H
  simp only[Option.some.injEq,Prod.mk.injEq] at H
  obtain⟨rfl,rfl,rfl⟩:=H
  have aO:=D.out
  have aP:=E.out
  obtain⟨aj,ak,al,am⟩:=cz2 (W:=w8) I
  go_wp2_with (first|((with_reducible refine zac (f:=51) rfl ?_);refine zal (some 23) rfl rfl Tryz.func51 (by kernel_rfl) rfl #[.agg #[.string ac,.int .i64 U],.int .i64 (wrap64 (U+(af)))] rfl (by(try simp only[List.map_toArray,List.map_cons,List.map_nil]);first|done|(simp only[O];rfl)|rfl|(simp only[List.length_drop,List.length_take];rfl)) ?_;(with_reducible refine(zaO.calls k ac U (wrap64 (U+(af))) ah ai _ aN.out).mono ?_);rintro e aQ ⟨rfl,hb⟩;refine⟨_,rfl,?_⟩;replace I:=kN (g:=K) (cs:=#[.string ac,.int .i64 U]) hb bk;replace Z:=kN (g:=Y) (cs:=#[.string (⟨#[]⟩:ByteArray),.int .i64 0]) hb bk;replace HB:=bN bz hb;(try clear hb);(try clear aM);(try clear hk);(try clear hi);obtain⟨an,ao,ap,ar⟩:=cz2 (W:=aQ) Z))
  refine bodyPost_ret (zaM rfl _ _ Y 42 #[.string ah,.int .i64 ai] (0,0) _ rfl bk Tryz.underlying42 rfl (by kernel_rfl)) rfl ?_
  exact⟨by first|rfl|(simp[zan,zao]<;>rfl)|(simp only[←M,←O];first|rfl|(simp[zan,zao]<;>rfl))|(simp[*,zan,zao]<;>rfl),bz⟩
 replace H:=hN H ae
 obtain⟨aa,ab⟩:=eF ae
 try first|rw[aa]|rw[ab]
 simp only[Option.some.injEq,Prod.mk.injEq] at H
 obtain⟨rfl,rfl,rfl⟩:=H
 have aR:=E.out
 have aS:=D.out
 obtain⟨au,av,aw,ax⟩:=cz2 (W:=w8) Z
 go_wp2
 refine bodyPost_ret (zaM rfl _ _ Y 42 #[.string (⟨#[]⟩:ByteArray),.int .i64 0] (0,0) _ rfl bk Tryz.underlying42 rfl (by kernel_rfl)) rfl ?_
 exact⟨ez,bz⟩
end
end Go.Proofs.YtecpgdfnamkfdaaGreatDoor.Fn
end
section
namespace Go.Proofs.YtecpgdfnamkfdaaGreatDoor.Fn
open Go.RowKit Go.Proofs.YtecpgdfnamkfdaaGreatDoorW.PrintWords
set_option linter.unusedVariables false
def strings_Repeat.f(s:ByteArray)(c:Int):Option ByteArray:=
  if 0≤c∧c≤1000000∧s.size≤1000000 then some ⟨(Lib.repeatL s.data.toList c.toNat).toArray⟩ else none
theorem strings_Repeat.calls(a0:ByteArray)(a1:Int)(r:ByteArray)(w:World)(h:strings_Repeat.f a0 a1=some r):
    Calls Tryz.prog 46 #[.string a0,.int .i64 a1] w fun e w'=>e= .returned (.string r)∧Below w.heap.size w w':=by
  unfold strings_Repeat.f at h
  split at h
  · rename_i hc
    obtain rfl:=Option.some.inj h
    obtain⟨n,rfl⟩: ∃n:Nat,a1=n:=⟨a1.toNat,by omega⟩
    have hm:a0.size*n≤1000000*1000000:=Nat.mul_le_mul (by omega) (by omega)
    refine(Tryz.strings_Repeat a0 n w (by omega) (by omega)).mono ?_
    rintro e w' ⟨rfl,hb⟩
    exact⟨by rw[Int.toNat_natCast],hb⟩
  · cases h
theorem cell_spot{w:World}{a:Addr}{v:Value}(h:w.cell? a=some v):a.spot=none∧a.block<w.heap.size:=by
  unfold World.cell? at h
  split at h
  · rename_i hg
    split at h
    · cases h
    · rename_i hs
      refine⟨?_,(Array.getElem?_eq_some_iff.1 hg).1⟩
      cases hh:a.spot with
      |none=>rfl
      |some x=>simp[hh] at hs
  · cases h
theorem ziw(b o j:Nat):(⟨b,o,none⟩:Addr).add j=⟨b,o+j,none⟩:=by
  unfold Addr.add
  split
  · rename_i e;subst e;rfl
  · rfl
def strings_Join.f(l:List ByteArray)(sep:ByteArray):Option ByteArray:=
  if l.length≤1000∧(Lib.join (l.map (·.data.toList)) sep.data.toList).length≤1000000 then some ⟨(Lib.join (l.map (·.data.toList)) sep.data.toList).toArray⟩ else none
theorem strings_Join.calls(A0:Option Addr)(c0:Nat)(l0:List ByteArray)(a1:ByteArray)(r:ByteArray)(w:World)(A:Kd.C Kd.string w A0 l0.length l0)(B:l0.length≤c0)(h:strings_Join.f l0 a1=some r):
    Calls Tryz.prog 144 #[.slice A0 l0.length c0,.string a1] w fun e w'=>e= .returned (.string r)∧Below w.heap.size w w':=by
  unfold strings_Join.f at h
  split at h
  · rename_i hc
    obtain rfl:=Option.some.inj h
    cases l0 with
    |nil=>
      refine(Tryz.strings_Join_none A0 c0 a1 w).mono ?_
      rintro e w' ⟨rfl,rfl⟩
      exact⟨rfl,Below.refl _ _⟩
    |cons x t=>
      obtain⟨ad,rfl,h0⟩:=Kd.at_string A 0 (by omega) (by simp)
      obtain⟨hs,hb⟩:=cell_spot h0
      obtain⟨bk,o,sp⟩:=ad
      have hs:sp=none:=hs
      subst hs
      refine Tryz.strings_Join bk o c0 (x::t) a1 w (fun j y hj=>?_) hb (by omega) B (by omega)
      have hjl:j<(x::t).length:=by
        rw[List.getElem?_eq_some_iff] at hj
        exact hj.1
      obtain⟨D,e2,h2⟩:=Kd.at_string A (j:Int) (by omega) (by omega)
      cases e2
      have e3:rdOf ByteArray.empty (x::t) (j:Int)=y:=by
        unfold rdOf
        rw[Int.toNat_natCast,List.getD_eq_getElem?_getD,hj]
        rfl
      rw[e3,Int.toNat_natCast,ziw] at h2
      exact h2
  · cases h
def zbz.f(s:ByteArray):Option ByteArray:=
  if s.size≤1000000∧s.data.toList.all (fun b=>b.toNat<128)=true then some ⟨(Lib.toUpperA s.data.toList).toArray⟩ else none
theorem zbz.calls(a0:ByteArray)(r:ByteArray)(w:World)(h:zbz.f a0=some r):
    Calls Tryz.prog 114 #[.string a0] w fun e w'=>e= .returned (.string r)∧Below w.heap.size w w':=by
  unfold zbz.f at h
  split at h
  · rename_i hc
    obtain rfl:=Option.some.inj h
    refine Tryz.strings_ToUpper_ascii a0 w (by omega) (fun j b hj=>?_)
    have:=List.all_eq_true.1 hc.2 b (List.mem_of_getElem? hj)
    simpa using this
  · cases h
def bits_Len64.f(x:Int):Option Int:=if 0≤x∧x≤18446744073709551615 then some (Lib.bitLen x.toNat:Int) else none
theorem bits_Len64.calls(a0:Int)(r:Int)(w:World)(h:bits_Len64.f a0=some r):
    Calls Tryz.prog 112 #[.int .u64 a0] w fun e w'=>e= .returned (.int .i64 r)∧Below w.heap.size w w':=by
  unfold bits_Len64.f at h
  split at h
  · rename_i hc
    obtain rfl:=Option.some.inj h
    refine(Tryz.bits_Len64 a0 w hc.1 hc.2).mono ?_
    rintro e w' ⟨rfl,rfl⟩
    exact⟨rfl,Below.refl _ _⟩
  · cases h
end Go.Proofs.YtecpgdfnamkfdaaGreatDoor.Fn
end
section
namespace Go.Proofs.YtecpgdfnamkfdaaGreatDoor.Fn
open Go.RowKit Go.Proofs.YtecpgdfnamkfdaaGreatDoorW.PrintWords Go.Proofs.YtecpgdfnamkfdaaGreatDoorW.PrintLast Go.Proofs.YtecpgdfnamkfdaaGreatDoorW.PrintMore
set_option linter.unusedVariables false
set_option linter.unusedSimpArgs false
set_option maxHeartbeats 8000000
set_option maxRecDepth 100000
section
attribute [local go_sem] fnW_0 fnW_1 fnW_2 fnW_3 fnW_4 fnW_5 fnW_guard fnW_eql zaK zaL zaQ zaR
def za7.f(a0:ByteArray)(a1:Int):Option (ByteArray):=(strings_Repeat.f (⟨#[48]⟩:ByteArray) (mx 0 (wrap64 (a1-(a0.size:Int))))).bind fun A=>(if a0.size+A.size≤9223372036854775807 then(some (a0++A)) else(none))
theorem za7.calls(a0:ByteArray)(a1:Int)(r:ByteArray)(w:World)(h:za7.f a0 a1=some r):
  Calls Tryz.prog 105 #[.string a0,.int .i64 a1] w fun e w'=>e= .returned (.string r)∧Below w.heap.size w w':=by
 have HB:=zaa.mk (Below.refl w.heap.size w)
 have H:((strings_Repeat.f (⟨#[48]⟩:ByteArray) (mx 0 (wrap64 (a1-(a0.size:Int))))).bind fun A=>(if a0.size+A.size≤9223372036854775807 then(some (a0++A)) else(none)))=some r:=h
 clear h
 obtain⟨D,B⟩: ∃j_:Int,(mx 0 (wrap64 (a1-(a0.size:Int))))=j_:=⟨_,rfl⟩
 (first|rw[B] at H|simp only[B] at H)
 (try(have E:0≤D:=by(rw[←B];unfold mx;(repeat' split)<;>omega)))
 (try(have I:0≤D:=by omega))
 have J:(if 0<(wrap64 (a1-(a0.size:Int))) then(wrap64 (a1-(a0.size:Int))) else 0)=D:=B
 replace H:=bs H
 obtain⟨A,A4,H⟩:=H
 by_cases c5:a0.size+A.size≤9223372036854775807
 ·replace H:=hE H c5
  have K:=eq_true c5
  have M:decide (a0.size+A.size≤9223372036854775807)=true:=decide_eq_true c5
  try have O:(9223372036854775807<a0.size+A.size)=False:=eq_false (Nat.not_lt.2 c5)
  obtain rfl:=Option.some.inj H
  go_enter Tryz.func105,Tryz.ntmps105
  go_wp2_with (first|((with_reducible refine zac (f:=46) rfl ?_);refine zal (some 11) rfl rfl Tryz.func46 (by kernel_rfl) rfl #[.string (⟨#[48]⟩:ByteArray),.int .i64 D] rfl (by(try simp only[List.map_toArray,List.map_cons,List.map_nil]);first|done|(simp only[B];rfl)|rfl|(simp only[List.length_drop,List.length_take];rfl)) ?_;(with_reducible refine(strings_Repeat.calls (⟨#[48]⟩:ByteArray) D A _ A4.out).mono ?_);rintro e w6 ⟨rfl,hb⟩;refine⟨_,rfl,?_⟩;replace HB:=bN bz hb;(try clear hb);(try clear U);(try clear hk);(try clear hi)))
  go_ret
  exact⟨by first|rfl|(simp[zan,zao]<;>rfl)|(simp only[←B];first|rfl|(simp[zan,zao]<;>rfl))|(simp[*,zan,zao]<;>rfl),bz⟩
 replace H:=hN H c5
 exact absurd H (by simp)
def zaC.f(l0:List ByteArray):Option (ByteArray):=(strings_Join.f l0 (⟨#[]⟩:ByteArray)).bind fun A=>(some A)
theorem zaC.calls(A0:Option Addr)(c0:Nat)(l0:List ByteArray)(r:ByteArray)(w:World)(B:Kd.C Kd.string w A0 l0.length l0)(D:l0.length≤c0)(h:zaC.f l0=some r):
  Calls Tryz.prog 109 #[.slice A0 l0.length c0] w fun e w'=>e= .returned (.string r)∧Below w.heap.size w w':=by
 have E:=zaa.mk B
 have I:=zaa.mk D
 clear B D
 have HB:=zaa.mk (Below.refl w.heap.size w)
 have H:((strings_Join.f l0 (⟨#[]⟩:ByteArray)).bind fun A=>(some A))=some r:=h
 clear h
 replace H:=bs H
 obtain⟨A,A2,H⟩:=H
 obtain rfl:=Option.some.inj H
 go_enter Tryz.func109,Tryz.ntmps109
 go_wp2_with (first|((with_reducible refine zac (f:=144) rfl ?_);refine zal (some 4) rfl rfl Tryz.func144 (by kernel_rfl) rfl #[.slice A0 l0.length c0,.string (⟨#[]⟩:ByteArray)] rfl lz ?_;(with_reducible refine(strings_Join.calls _ _ l0 (⟨#[]⟩:ByteArray) A _ ?side1 ?side2 A2.out).mono ?_);(case side1=>repeat(first|exact E.out|(with_reducible refine Kd.C_alloc ?_ _)|(with_reducible refine Kd.C_drewN ?_ _)|(with_reducible refine Kd.C_drew ?_)));(case side2=>exact I.out);rintro e w3 ⟨rfl,hb⟩;refine⟨_,rfl,?_⟩;replace HB:=bN bz hb;(try clear hb);(try clear J);(try clear hk);(try clear hi)))
 go_ret
 exact⟨ez,bz⟩
def zaJ.f(E:Int)(I:Int)(J:Int)(K:Int)(M:Int)(A:Bool)(O:Int)(a1:ByteArray)(a2:ByteArray):Option (ByteArray):=if a2.toList=([]:List UInt8) then(if A=true then((zaC.f (([a1,(⟨#[46]⟩:ByteArray),a2]:List ByteArray))).bind fun B=>(some B)) else(some a1)) else((zaC.f (([a1,(⟨#[46]⟩:ByteArray),a2]:List ByteArray))).bind fun D=>(some D))
theorem zaJ.calls(E:Int)(I:Int)(J:Int)(K:Int)(O:Int)(U:Bool)(X:Int)(a1:ByteArray)(a2:ByteArray)(r:ByteArray)(w:World)(h:zaJ.f E I J K O U X a1 a2=some r):
  Calls Tryz.prog 107 #[.agg #[.int .u64 E,.int .i64 I,.int .u64 J,.int .i64 K,.int .i64 O,.bool U,.int .i32 X],.string a1,.string a2] w fun e w'=>e= .returned (.string r)∧Below w.heap.size w w':=by
 have aR:=Tryz.underlying74
 have HB:=zaa.mk (Below.refl w.heap.size w)
 have H:(if a2.toList=([]:List UInt8) then(if U=true then((zaC.f (([a1,(⟨#[46]⟩:ByteArray),a2]:List ByteArray))).bind fun ae=>(some ae)) else(some a1)) else((zaC.f (([a1,(⟨#[46]⟩:ByteArray),a2]:List ByteArray))).bind fun af=>(some af)))=some r:=h
 clear h
 by_cases c4:a2.toList=([]:List UInt8)
 ·replace H:=hE H c4
  have aj:(a2.toList==([]:List UInt8))=true:=beq_iff_eq.mpr c4
  have ar:(a2.toList !=([]:List UInt8))=false:=bne_eq_false_iff_eq.mpr c4
  have au:a2.toList.isEmpty=true:=by simpa using aj
  clear c4
  go_enter Tryz.func107,Tryz.ntmps107
  go_upto_if 13 with(first|((with_reducible refine zak (N:=3) rfl ?_);refine zaj rfl (N:=3) rfl (cs:=#[.int .u64 E,.int .i64 I,.int .u64 J,.int .i64 K,.int .i64 O,.bool U,.int .i32 X]) (t:=74) gz ?_;intro Y hg w5 hbox hb;have ao:=gN bz hg;have ap:=gN bz hg;have A:=zaa.mk hbox;replace HB:=bN bz hb;clear hb hbox hg;obtain⟨aB,aC,aD,aE,aF,aG,aH,aI,aJ,aK,aL,aM,aN,aO⟩:=cz7 (W:=w5) A))
  (try simp only[Act.put,List.setIfInBounds_toArray,List.set_cons_zero,List.set_cons_succ])
  by_cases c7:U=true
  ·subst c7
   replace H:=hT H
   obtain⟨ak,Z⟩: ∃y_:List ByteArray,y_=(([a1,(⟨#[46]⟩:ByteArray),a2]:List ByteArray)):=⟨_,rfl⟩
   replace H:((zaC.f ak).bind fun ae=>(some ae))=some r:=by first|(rw[Z];with_reducible exact H)|(have ai:=(Option.bind_some _ _).symm.trans H;rw[Z];with_reducible exact ai)|(have ai:=(Option.bind_some _ _).symm.trans H;with_reducible exact ai)|with_reducible exact H|(rw[Z];exact H)|exact H
   have al:=zaa.mk Z
   clear Z
   replace H:=bs H
   obtain⟨ae,A8,H⟩:=H
   obtain rfl:=Option.some.inj H
   go_wp2_with (first|((with_reducible refine zak (N:=17) rfl ?_);refine Kd.R_lit Kd.string _ 9 ?hg (N:=17) ?hd (xs:=([a1,(⟨#[46]⟩:ByteArray),a2]:List ByteArray)) (inner:=[.string a1,.string (⟨#[46]⟩:ByteArray),.string a2]) (ok:=fun _=>True) (okp:=fun _=>True) ?hr ?hp (fun _ hk=>hk) trivial (Below.refl _ _) (Nat.le_refl _) (by simp) ?_;(case hd=>rfl);(case hg=>rfl);(case hr=>first|(go_simp;done)|(go_simp;rfl));(case hp=>exact(Reps.one (show Kd.M Kd.string _ _ _ a1 [.string a1] from rfl) (Reps.one (show Kd.M Kd.string _ _ _ (⟨#[46]⟩:ByteArray) [.string (⟨#[46]⟩:ByteArray)] from rfl) (Reps.one (show Kd.M Kd.string _ _ _ a2 [.string a2] from rfl) (Reps.none _ _)))));intro aS w9 ag hb hg_ hnew_;clear hg_ hnew_;(first|rw[←al.out] at ag|(simp only[Int.reduceToNat] at ag;rw[←al.out] at ag));have aa:=zaa.mk (Kd.R_lower ag (zaI bz));have ab:=zaa.mk (zag (g:=Y) (o:=.cells #[.int .u64 E,.int .i64 I,.int .u64 J,.int .i64 K,.int .i64 O,.bool true,.int .i32 X] 74 (0,0)) bk hb);have ac:=zaa.mk (zam bz hb);clear A;clear HB;have B:=aa;have A:=ab;have HB:=ac;clear aa ab ac;clear hb ag;obtain⟨av,aw,ax⟩:=Kd.R_slice B.out;subst ax)|((with_reducible refine zac (f:=109) rfl ?_);refine zal (some 18) rfl rfl Tryz.func109 (by kernel_rfl) rfl #[.slice av ak.length aw] rfl lz ?_;(with_reducible refine(zaC.calls _ _ ak ae _ ?side1 ?side2 A8.out).mono ?_);(case side1=>repeat(first|exact(Kd.R_reads' B.out).2.2|(with_reducible refine Kd.C_alloc ?_ _)|(with_reducible refine Kd.C_drewN ?_ _)|(with_reducible refine Kd.C_drew ?_)));(case side2=>exact(Kd.R_reads' B.out).2.1);rintro e aU ⟨rfl,hb⟩;refine⟨_,rfl,?_⟩;have aa:=zaa.mk (Kd.R_below (by(with_reducible repeat(first|apply Kd.R_alloc|apply Kd.R_drewN|apply Kd.R_drew));exact B.out) hb);have ab:=zaa.mk (zag (g:=Y) (o:=.cells #[.int .u64 E,.int .i64 I,.int .u64 J,.int .i64 K,.int .i64 O,.bool true,.int .i32 X] 74 (0,0)) bk hb);have ac:=zaa.mk (zam bz hb);clear B;clear A;clear HB;have B:=aa;have A:=ab;have HB:=ac;clear aa ab ac;(try clear hb);(try clear aP);(try clear hk);(try clear hi)))
   go_ret
   exact⟨ez,bz⟩
  replace c7:=Bool.eq_false_iff.mpr c7
  subst c7
  replace H:=hF H
  obtain rfl:=Option.some.inj H
  go_wp2
  go_ret
  exact⟨ez,bz⟩
 replace H:=hN H c4
 have aj:(a2.toList==([]:List UInt8))=false:=beq_eq_false_iff_ne.mpr c4
 have ar:(a2.toList !=([]:List UInt8))=true:=bne_iff_ne.mpr c4
 have au:a2.toList.isEmpty=false:=by simpa using aj
 obtain⟨am,ad⟩: ∃y_:List ByteArray,y_=(([a1,(⟨#[46]⟩:ByteArray),a2]:List ByteArray)):=⟨_,rfl⟩
 replace H:((zaC.f am).bind fun af=>(some af))=some r:=by first|(rw[ad];with_reducible exact H)|(have ai:=(Option.bind_some _ _).symm.trans H;rw[ad];with_reducible exact ai)|(have ai:=(Option.bind_some _ _).symm.trans H;with_reducible exact ai)|with_reducible exact H|(rw[ad];exact H)|exact H
 have an:=zaa.mk ad
 clear ad
 replace H:=bs H
 obtain⟨af,aQ,H⟩:=H
 obtain rfl:=Option.some.inj H
 go_enter Tryz.func107,Tryz.ntmps107
 go_wp2_with (first|((with_reducible refine zak (N:=3) rfl ?_);refine zaj rfl (N:=3) rfl (cs:=#[.int .u64 E,.int .i64 I,.int .u64 J,.int .i64 K,.int .i64 O,.bool U,.int .i32 X]) (t:=74) gz ?_;intro Y hg aV hbox hb;have ao:=gN bz hg;have ap:=gN bz hg;have A:=zaa.mk hbox;replace HB:=bN bz hb;clear hb hbox hg)|((with_reducible refine zak (N:=17) rfl ?_);refine Kd.R_lit Kd.string _ 9 ?hg (N:=17) ?hd (xs:=([a1,(⟨#[46]⟩:ByteArray),a2]:List ByteArray)) (inner:=[.string a1,.string (⟨#[46]⟩:ByteArray),.string a2]) (ok:=fun _=>True) (okp:=fun _=>True) ?hr ?hp (fun _ hk=>hk) trivial (Below.refl _ _) (Nat.le_refl _) (by simp) ?_;(case hd=>rfl);(case hg=>rfl);(case hr=>first|(go_simp;done)|(go_simp;rfl));(case hp=>exact(Reps.one (show Kd.M Kd.string _ _ _ a1 [.string a1] from rfl) (Reps.one (show Kd.M Kd.string _ _ _ (⟨#[46]⟩:ByteArray) [.string (⟨#[46]⟩:ByteArray)] from rfl) (Reps.one (show Kd.M Kd.string _ _ _ a2 [.string a2] from rfl) (Reps.none _ _)))));intro aT aW ah hb hg_ hnew_;clear hg_ hnew_;(first|rw[←an.out] at ah|(simp only[Int.reduceToNat] at ah;rw[←an.out] at ah));have aa:=zaa.mk (Kd.R_lower ah (zaI bz));have ab:=zaa.mk (zag (g:=Y) (o:=.cells #[.int .u64 E,.int .i64 I,.int .u64 J,.int .i64 K,.int .i64 O,.bool U,.int .i32 X] 74 (0,0)) bk hb);have ac:=zaa.mk (zam bz hb);clear A;clear HB;have D:=aa;have A:=ab;have HB:=ac;clear aa ab ac;clear hb ah;obtain⟨ay,az,aA⟩:=Kd.R_slice D.out;subst aA)|((with_reducible refine zac (f:=109) rfl ?_);refine zal (some 18) rfl rfl Tryz.func109 (by kernel_rfl) rfl #[.slice ay am.length az] rfl lz ?_;(with_reducible refine(zaC.calls _ _ am af _ ?side1 ?side2 aQ.out).mono ?_);(case side1=>repeat(first|exact(Kd.R_reads' D.out).2.2|(with_reducible refine Kd.C_alloc ?_ _)|(with_reducible refine Kd.C_drewN ?_ _)|(with_reducible refine Kd.C_drew ?_)));(case side2=>exact(Kd.R_reads' D.out).2.1);rintro e aX ⟨rfl,hb⟩;refine⟨_,rfl,?_⟩;have aa:=zaa.mk (Kd.R_below (by(with_reducible repeat(first|apply Kd.R_alloc|apply Kd.R_drewN|apply Kd.R_drew));exact D.out) hb);have ab:=zaa.mk (zag (g:=Y) (o:=.cells #[.int .u64 E,.int .i64 I,.int .u64 J,.int .i64 K,.int .i64 O,.bool U,.int .i32 X] 74 (0,0)) bk hb);have ac:=zaa.mk (zam bz hb);clear D;clear A;clear HB;have D:=aa;have A:=ab;have HB:=ac;clear aa ab ac;(try clear hb);(try clear aP);(try clear hk);(try clear hi)))
 go_ret
 exact⟨ez,bz⟩
def zaB.f(B:Int)(D:Int)(E:Int)(I:Int)(J:Int)(K:Bool)(M:Int)(a1:ByteArray)(a2:Int):Option (ByteArray):=if a2≤0 then((strings_Repeat.f (⟨#[48]⟩:ByteArray) (wrap64 (-a2))).bind fun O=>(if O.size+a1.size≤9223372036854775807 then((zaJ.f B D E I J K M (⟨#[48]⟩:ByteArray) (O++a1)).bind fun U=>(some U)) else(none))) else((za7.f a1 a2).bind fun A=>(if 0≤a2 then(if a2≤(A.size:Int) then((zaJ.f B D E I J K M (A.extract 0 (a2:Int).toNat) (A.extract (a2:Int).toNat A.size)).bind fun X=>(some X)) else(none)) else(none)))
def zaB.T2:Bool×List (List Nat×List Nat):=(true,[([],[]),([],[]),([1],[1]),([2],[2]),([],[]),([3,4],[3,4]),([0,5,3],[0,5]),([6,6,0,1,2,3,4,5,6],[6])])
def zaB.B2:List Nat:=[0,0,2,6,0,30,63,127]
theorem zaB.tab2:rtab .any (opsOf Tryz.f108 2)=zaB.T2:=by kernel_rfl
theorem zaB.bits2:waitsOk zaB.T2.2 zaB.B2=true:=by kernel_rfl
def zaB.T4:Bool×List (List Nat×List Nat):=(true,[([],[]),([],[]),([],[]),([1,2],[1,2]),([],[]),([],[]),([4,5],[4,5]),([0,3,6],[0,3,6]),([7,7,0,1,2,3,4,5,6,7],[7])])
def zaB.B4:List Nat:=[0,0,0,6,0,0,48,127,255]
theorem zaB.tab4:rtab .any (opsOf Tryz.f108 4)=zaB.T4:=by kernel_rfl
theorem zaB.bits4:waitsOk zaB.T4.2 zaB.B4=true:=by kernel_rfl
theorem zaB.calls(D:Int)(E:Int)(I:Int)(J:Int)(M:Int)(O:Bool)(U:Int)(a1:ByteArray)(a2:Int)(r:ByteArray)(w:World)(h:zaB.f D E I J M O U a1 a2=some r):
  Calls Tryz.prog 108 #[.agg #[.int .u64 D,.int .i64 E,.int .u64 I,.int .i64 J,.int .i64 M,.bool O,.int .i32 U],.string a1,.int .i64 a2] w fun e w'=>e= .returned (.string r)∧Below w.heap.size w w':=by
 have ar:=Tryz.underlying74
 have HB:=zaa.mk (Below.refl w.heap.size w)
 have H:(if a2≤0 then((strings_Repeat.f (⟨#[48]⟩:ByteArray) (wrap64 (-a2))).bind fun Z=>(if Z.size+a1.size≤9223372036854775807 then((zaJ.f D E I J M O U (⟨#[48]⟩:ByteArray) (Z++a1)).bind fun aa=>(some aa)) else(none))) else((za7.f a1 a2).bind fun X=>(if 0≤a2 then(if a2≤(X.size:Int) then((zaJ.f D E I J M O U (X.extract 0 (a2:Int).toNat) (X.extract (a2:Int).toNat X.size)).bind fun ab=>(some ab)) else(none)) else(none))))=some r:=h
 clear h
 go_enter Tryz.func108,Tryz.ntmps108
 go_upto_if 8 with(first|((with_reducible refine zak (N:=3) rfl ?_);refine zaj rfl (N:=3) rfl (cs:=#[.int .u64 D,.int .i64 E,.int .u64 I,.int .i64 J,.int .i64 M,.bool O,.int .i32 U]) (t:=74) gz ?_;intro B hg w4 hbox hb;have ag:=gN bz hg;have A:=zaa.mk hbox;replace HB:=bN bz hb;clear hb hbox hg))
 (try simp only[Act.put,List.setIfInBounds_toArray,List.set_cons_zero,List.set_cons_succ])
 by_cases c5:a2≤0
 ·replace H:=hE H c5
  have ac:=decide_eq_true c5
  clear c5
  try rw[ac]
  replace H:=bs H
  obtain⟨Z,A6,H⟩:=H
  by_cases c7:Z.size+a1.size≤9223372036854775807
  ·replace H:=hE H c7
   have au:=eq_true c7
   have av:decide (Z.size+a1.size≤9223372036854775807)=true:=decide_eq_true c7
   try have aw:(9223372036854775807<Z.size+a1.size)=False:=eq_false (Nat.not_lt.2 c7)
   replace H:=bs H
   obtain⟨aa,A8,H⟩:=H
   obtain rfl:=Option.some.inj H
   try go_wp2
   replace A:=zaa.mk (zaw A.out)
   replace HB:=zaa.mk (zaT HB.out)
   refine zbo (n:=8) (S:=fun w'=>w'.cell? ⟨B,0,none⟩=some (.int .u64 D)∧w'.cell? ⟨B,1,none⟩=some (.int .i64 E)∧w'.cell? ⟨B,2,none⟩=some (.int .u64 I)∧w'.cell? ⟨B,3,none⟩=some (.int .i64 J)∧w'.cell? ⟨B,4,none⟩=some (.int .i64 M)∧w'.cell? ⟨B,5,none⟩=some (.bool O)∧w'.cell? ⟨B,6,none⟩=some (.int .i32 U)) (ds:=[]) #[false,false,false,false,false,false,false,false] (by kernel_rfl) rfl rfl ⟨(zab A.out 0).trans rfl,(zab A.out 1).trans rfl,(zab A.out 2).trans rfl,(zab A.out 3).trans rfl,(zab A.out 4).trans rfl,(zab A.out 5).trans rfl,(zab A.out 6).trans rfl⟩ (fun hHeld=>?_);refine zbf zaB.tab2 zaB.bits2 (fun Y HW_=>?_)
   generalize w4.drew=w9 at A HB hHeld ⊢
   refine zau (i:=1) (N:=some 10) (v:=?_) (a':=?_) #[false,true,false,false,false,false,false,false] rfl rfl (zas Y.out (by kernel_rfl)) (fun _ _ _ h=>h) (Or.inl ⟨by rfl,?_⟩) ?_ ?_
   rotate_left
   ·intro w'
    go_simp
    with_reducible rfl
   rotate_left
   ·simp only[Act.put,List.setIfInBounds_toArray,List.set_cons_zero,List.set_cons_succ,zad,zaf]
    rfl
   refine zau (i:=2) (N:=some 11) (v:=?_) (a':=?_) #[false,true,true,false,false,false,false,false] rfl rfl (zas Y.out (by kernel_rfl)) (fun _ _ _ h=>h) (Or.inl ⟨by rfl,?_⟩) ?_ ?_
   rotate_left
   ·intro w'
    go_simp
    with_reducible rfl
   rotate_left
   ·simp only[Act.put,List.setIfInBounds_toArray,List.set_cons_zero,List.set_cons_succ,zad,zaf]
    rfl
   refine zau (i:=4) (N:=some 13) (v:=?_) (a':=?_) #[false,true,true,false,true,false,false,false] rfl rfl (zas Y.out (by kernel_rfl)) (fun _ _ _ h=>h) (Or.inl ⟨by rfl,?_⟩) ?_ ?_
   rotate_left
   ·intro w'
    go_simp
    with_reducible rfl
   rotate_left
   ·simp only[Act.put,List.setIfInBounds_toArray,List.set_cons_zero,List.set_cons_succ,zad,zaf]
    rfl
   refine zaW (i:=0) (N:=some 9) (v:=?_) (a':=?_) #[true,true,true,false,true,false,false,false] rfl rfl (zaH Y.out HW_.out (by kernel_rfl)) (fun _ _ _ h=>h) (Or.inl ⟨by rfl,?_⟩) hHeld ?_ ?_
   rotate_left
   ·rintro w' ⟨s0,s1,s2,s3,s4,s5,s6⟩
    go_simp
    with_reducible rfl
   rotate_left
   ·simp only[Act.put,List.setIfInBounds_toArray,List.set_cons_zero,List.set_cons_succ,zad,zaf]
    rfl
   refine one_ (i:=3) (N:=some 12) #[true,true,true,true,true,false,false,false] rfl rfl (zaZ Y.out (by kernel_rfl)) (by decide) (fun K hK=>?_)
   refine za5 Tryz.func46 (by kernel_rfl) rfl #[.string (⟨#[48]⟩:ByteArray),.int .i64 (wrap64 (-a2))] (by rfl) rfl rfl lz ?_
   with_reducible refine(strings_Repeat.calls (⟨#[48]⟩:ByteArray) (wrap64 (-a2)) Z _ A6.out).mono ?_
   rintro e ax ⟨rfl,hb⟩
   refine⟨_,rfl,?_⟩
   replace A:=zaa.mk (zag (g:=B) (o:=.cells #[.int .u64 D,.int .i64 E,.int .u64 I,.int .i64 J,.int .i64 M,.bool O,.int .i32 U] 74 (0,0)) bk hb)
   replace HB:=zaa.mk (zam bz hb)
   (try clear hb)
   (try clear af)
   (try clear hk)
   (try clear hi)
   refine hK.out _ _ ⟨(zab A.out 0).trans rfl,(zab A.out 1).trans rfl,(zab A.out 2).trans rfl,(zab A.out 3).trans rfl,(zab A.out 4).trans rfl,(zab A.out 5).trans rfl,(zab A.out 6).trans rfl⟩ (fun hHeld=>?_)
   clear hK K
   refine zaY (a':=?_) ?_ ?_
   rotate_left
   ·show Act.put _ (some 12) _=_
    simp only[Act.put,List.setIfInBounds_toArray,List.set_cons_zero,List.set_cons_succ,zad,zaf]
    rfl
   refine zau (i:=5) (N:=some 14) (v:=?_) (a':=?_) #[true,true,true,true,true,true,false,false] rfl rfl (zas Y.out (by kernel_rfl)) (fun _ _ _ h=>h) (Or.inl ⟨by rfl,?_⟩) ?_ ?_
   rotate_left
   ·intro w'
    go_simp
    with_reducible rfl
   rotate_left
   ·simp only[Act.put,List.setIfInBounds_toArray,List.set_cons_zero,List.set_cons_succ,zad,zaf]
    rfl
   refine one_ (i:=6) (N:=some 15) #[true,true,true,true,true,true,true,false] rfl rfl (zaZ Y.out (by kernel_rfl)) (by decide) (fun K hK=>?_)
   refine za5 Tryz.func107 (by kernel_rfl) rfl #[.agg #[.int .u64 D,.int .i64 E,.int .u64 I,.int .i64 J,.int .i64 M,.bool O,.int .i32 U],.string (⟨#[48]⟩:ByteArray),.string (Z++a1)] (by rfl) rfl rfl lz ?_
   with_reducible refine(zaJ.calls D E I J M O U (⟨#[48]⟩:ByteArray) (Z++a1) aa _ A8.out).mono ?_
   rintro e ay ⟨rfl,hb⟩
   refine⟨_,rfl,?_⟩
   replace A:=zaa.mk (zag (g:=B) (o:=.cells #[.int .u64 D,.int .i64 E,.int .u64 I,.int .i64 J,.int .i64 M,.bool O,.int .i32 U] 74 (0,0)) bk hb)
   replace HB:=zaa.mk (zam bz hb)
   (try clear hb)
   (try clear af)
   (try clear hk)
   (try clear hi)
   refine hK.out _ _ ⟨(zab A.out 0).trans rfl,(zab A.out 1).trans rfl,(zab A.out 2).trans rfl,(zab A.out 3).trans rfl,(zab A.out 4).trans rfl,(zab A.out 5).trans rfl,(zab A.out 6).trans rfl⟩ (fun hHeld=>?_)
   clear hK K
   refine zaY (a':=?_) ?_ ?_
   rotate_left
   ·show Act.put _ (some 15) _=_
    simp only[Act.put,List.setIfInBounds_toArray,List.set_cons_zero,List.set_cons_succ,zad,zaf]
    rfl
   refine zau (i:=7) (N:=some 6) (v:=?_) (a':=?_) #[true,true,true,true,true,true,true,true] rfl rfl (zas Y.out (by kernel_rfl)) (fun _ _ _ h=>h) (Or.inl ⟨by rfl,?_⟩) ?_ ?_
   rotate_left
   ·intro w'
    go_simp
    with_reducible rfl
   rotate_left
   ·simp only[Act.put,List.setIfInBounds_toArray,List.set_cons_zero,List.set_cons_succ,zad,zaf]
    rfl
   refine zbx (zbs Y.out (by kernel_rfl)) ?_
   try go_wp2
   go_ret
   exact⟨ez,bz⟩
  replace H:=hN H c7
  exact absurd H (by simp)
 replace H:=hN H c5
 have ac:=decide_eq_false c5
 clear c5
 try rw[ac]
 replace H:=bs H
 obtain⟨X,ah,H⟩:=H
 by_cases ad:0≤a2
 ·replace H:=hE H ad
  have ai:=eq_true ad
  have aj:decide (0≤a2)=true:=decide_eq_true ad
  clear ad
  by_cases ae:a2≤(X.size:Int)
  ·replace H:=hE H ae
   have ak:=eq_true ae
   have al:decide (a2≤(X.size:Int))=true:=decide_eq_true ae
   clear ae
   have am:=eq_true (of_decide_eq_true (by first|(with_reducible assumption)|assumption):0≤a2)
   have an:=eq_true (of_decide_eq_true (by first|(with_reducible assumption)|assumption):a2≤(X.size:Int))
   replace H:=bs H
   obtain⟨ab,ao,H⟩:=H
   obtain rfl:=Option.some.inj H
   try go_wp2_with (first|((with_reducible refine zac (f:=105) rfl ?_);refine zal (some 18) rfl rfl Tryz.func105 (by kernel_rfl) rfl #[.string a1,.int .i64 a2] rfl lz ?_;(with_reducible refine(za7.calls a1 a2 X _ ah.out).mono ?_);rintro e ap ⟨rfl,hb⟩;refine⟨_,rfl,?_⟩;replace A:=kN (g:=B) (cs:=#[.int .u64 D,.int .i64 E,.int .u64 I,.int .i64 J,.int .i64 M,.bool O,.int .i32 U]) hb bk;replace HB:=bN bz hb;(try clear hb);(try clear af);(try clear hk);(try clear hi)))
   replace A:=zaa.mk (zaw A.out)
   replace HB:=zaa.mk (zaT HB.out)
   refine zbo (n:=9) (S:=fun w'=>w'.cell? ⟨B,0,none⟩=some (.int .u64 D)∧w'.cell? ⟨B,1,none⟩=some (.int .i64 E)∧w'.cell? ⟨B,2,none⟩=some (.int .u64 I)∧w'.cell? ⟨B,3,none⟩=some (.int .i64 J)∧w'.cell? ⟨B,4,none⟩=some (.int .i64 M)∧w'.cell? ⟨B,5,none⟩=some (.bool O)∧w'.cell? ⟨B,6,none⟩=some (.int .i32 U)) (ds:=[]) #[false,false,false,false,false,false,false,false,false] (by kernel_rfl) rfl rfl ⟨(zab A.out 0).trans rfl,(zab A.out 1).trans rfl,(zab A.out 2).trans rfl,(zab A.out 3).trans rfl,(zab A.out 4).trans rfl,(zab A.out 5).trans rfl,(zab A.out 6).trans rfl⟩ (fun hHeld=>?_);refine zbf zaB.tab4 zaB.bits4 (fun Y HW_=>?_)
   generalize ap.drew=az at A HB hHeld ⊢
   refine zau (i:=1) (N:=some 20) (v:=?_) (a':=?_) #[false,true,false,false,false,false,false,false,false] rfl rfl (zas Y.out (by kernel_rfl)) (fun _ _ _ h=>h) (Or.inl ⟨by rfl,?_⟩) ?_ ?_
   rotate_left
   ·intro w'
    go_simp
    with_reducible rfl
   rotate_left
   ·simp only[Act.put,List.setIfInBounds_toArray,List.set_cons_zero,List.set_cons_succ,zad,zaf]
    rfl
   refine zau (i:=2) (N:=some 21) (v:=?_) (a':=?_) #[false,true,true,false,false,false,false,false,false] rfl rfl (zas Y.out (by kernel_rfl)) (fun _ _ _ h=>h) (Or.inl ⟨by rfl,?_⟩) ?_ ?_
   rotate_left
   ·intro w'
    go_simp
    with_reducible rfl
   rotate_left
   ·simp only[Act.put,List.setIfInBounds_toArray,List.set_cons_zero,List.set_cons_succ,zad,zaf]
    rfl
   refine zau (i:=3) (N:=some 22) (v:=?_) (a':=?_) #[false,true,true,true,false,false,false,false,false] rfl rfl (zas Y.out (by kernel_rfl)) (fun _ _ _ h=>h) (Or.inl ⟨by rfl,?_⟩) ?_ ?_
   rotate_left
   ·intro w'
    go_simp
    with_reducible rfl
   rotate_left
   ·simp only[Act.put,List.setIfInBounds_toArray,List.set_cons_zero,List.set_cons_succ,zad,zaf]
    rfl
   refine zau (i:=4) (N:=some 23) (v:=?_) (a':=?_) #[false,true,true,true,true,false,false,false,false] rfl rfl (zas Y.out (by kernel_rfl)) (fun _ _ _ h=>h) (Or.inl ⟨by rfl,?_⟩) ?_ ?_
   rotate_left
   ·intro w'
    go_simp
    with_reducible rfl
   rotate_left
   ·simp only[Act.put,List.setIfInBounds_toArray,List.set_cons_zero,List.set_cons_succ,zad,zaf]
    rfl
   refine zau (i:=5) (N:=some 24) (v:=?_) (a':=?_) #[false,true,true,true,true,true,false,false,false] rfl rfl (zas Y.out (by kernel_rfl)) (fun _ _ _ h=>h) (Or.inl ⟨by rfl,?_⟩) ?_ ?_
   rotate_left
   ·intro w'
    go_simp
    with_reducible rfl
   rotate_left
   ·simp only[Act.put,List.setIfInBounds_toArray,List.set_cons_zero,List.set_cons_succ,zad,zaf]
    rfl
   refine zau (i:=6) (N:=some 25) (v:=?_) (a':=?_) #[false,true,true,true,true,true,true,false,false] rfl rfl (zas Y.out (by kernel_rfl)) (fun _ _ _ h=>h) (Or.inl ⟨by rfl,?_⟩) ?_ ?_
   rotate_left
   ·intro w'
    go_simp
    with_reducible rfl
   rotate_left
   ·simp only[Act.put,List.setIfInBounds_toArray,List.set_cons_zero,List.set_cons_succ,zad,zaf]
    rfl
   refine zaW (i:=0) (N:=some 19) (v:=?_) (a':=?_) #[true,true,true,true,true,true,true,false,false] rfl rfl (zaH Y.out HW_.out (by kernel_rfl)) (fun _ _ _ h=>h) (Or.inl ⟨by rfl,?_⟩) hHeld ?_ ?_
   rotate_left
   ·rintro w' ⟨s0,s1,s2,s3,s4,s5,s6⟩
    go_simp
    with_reducible rfl
   rotate_left
   ·simp only[Act.put,List.setIfInBounds_toArray,List.set_cons_zero,List.set_cons_succ,zad,zaf]
    rfl
   refine one_ (i:=7) (N:=some 26) #[true,true,true,true,true,true,true,true,false] rfl rfl (zaZ Y.out (by kernel_rfl)) (by decide) (fun K hK=>?_)
   refine za5 Tryz.func107 (by kernel_rfl) rfl #[.agg #[.int .u64 D,.int .i64 E,.int .u64 I,.int .i64 J,.int .i64 M,.bool O,.int .i32 U],.string (X.extract 0 (a2:Int).toNat),.string (X.extract (a2:Int).toNat X.size)] (by rfl) rfl rfl lz ?_
   with_reducible refine(zaJ.calls D E I J M O U (X.extract 0 (a2:Int).toNat) (X.extract (a2:Int).toNat X.size) ab _ ao.out).mono ?_
   rintro e aA ⟨rfl,hb⟩
   refine⟨_,rfl,?_⟩
   replace A:=zaa.mk (zag (g:=B) (o:=.cells #[.int .u64 D,.int .i64 E,.int .u64 I,.int .i64 J,.int .i64 M,.bool O,.int .i32 U] 74 (0,0)) bk hb)
   replace HB:=zaa.mk (zam bz hb)
   (try clear hb)
   (try clear af)
   (try clear hk)
   (try clear hi)
   refine hK.out _ _ ⟨(zab A.out 0).trans rfl,(zab A.out 1).trans rfl,(zab A.out 2).trans rfl,(zab A.out 3).trans rfl,(zab A.out 4).trans rfl,(zab A.out 5).trans rfl,(zab A.out 6).trans rfl⟩ (fun hHeld=>?_)
   clear hK K
   refine zaY (a':=?_) ?_ ?_
   rotate_left
   ·show Act.put _ (some 26) _=_
    simp only[Act.put,List.setIfInBounds_toArray,List.set_cons_zero,List.set_cons_succ,zad,zaf]
    rfl
   refine zau (i:=8) (N:=some 6) (v:=?_) (a':=?_) #[true,true,true,true,true,true,true,true,true] rfl rfl (zas Y.out (by kernel_rfl)) (fun _ _ _ h=>h) (Or.inl ⟨by rfl,?_⟩) ?_ ?_
   rotate_left
   ·intro w'
    go_simp
    with_reducible rfl
   rotate_left
   ·simp only[Act.put,List.setIfInBounds_toArray,List.set_cons_zero,List.set_cons_succ,zad,zaf]
    rfl
   refine zbx (zbs Y.out (by kernel_rfl)) ?_
   try go_wp2
   go_ret
   exact⟨ez,bz⟩
  replace H:=hN H ae
  exact absurd H (by simp)
 replace H:=hN H ad
 exact absurd H (by simp)
end
def dgF(sg:ByteArray)(b:Nat):Nat→Nat→List Int→List Int
  |0,_,l=>l
  |k+1,m,l=>if m / b=0 then bt sg ((m%b:Nat):Int)::l else dgF sg b k (m / b) (bt sg ((m%b:Nat):Int)::l)
def zbg.f(n b:Int)(sg:ByteArray):Option ByteArray:=
  if 0≤n∧n≤18446744073709551615∧2≤b∧b≤(sg.size:Int)∧sg.size≤1000 then some (strOfNums (dgF sg b.toNat 64 n.toNat [])) else none
theorem zix{sg:ByteArray}{b k m:Nat}{l:List Int}(h:m / b≠0):dgF sg b (k+1) m l=dgF sg b k (m / b) (bt sg ((m%b:Nat):Int)::l):=by
  rw[dgF,if_neg h]
theorem ziy{sg:ByteArray}{b k m:Nat}{l:List Int}(h:m / b=0):dgF sg b (k+1) m l=bt sg ((m%b:Nat):Int)::l:=by
  rw[dgF,if_pos h]
def Out(w:World)(g:Nat)(t:TypeId)(j:Nat)(l:List Int):Prop:= ∃cur,w.heap[g]? =some (.cells cur t (0,0))∧cur.size=64∧cur.toList.drop j=nums .u8 l
theorem Out.cell{w:World}{g:Nat}{t:TypeId}{j:Nat}{l:List Int}(h:Out w g t j l)(i:Nat)(hi:i<64): ∃v,w.cell? ⟨g,i,none⟩=some v:=by
  obtain⟨cur,hg,hs,_⟩:=h
  refine⟨cur[i],?_⟩
  rw[zab hg i]
  exact Array.getElem?_eq_getElem (by omega)
theorem Out.free{w:World}{g:Nat}{t:TypeId}{j:Nat}{l:List Int}(h:Out w g t j l)(i:Nat):w.frozen? ⟨g,i,none⟩=false:=by
  obtain⟨cur,hg,_,_⟩:=h
  exact zaP hg i
theorem Out.set{w:World}{g:Nat}{t:TypeId}{j:Nat}{l:List Int}(h:Out w g t (j+1) l)(hj:j<64)(x:Int):Out (w.setCell ⟨g,j,none⟩ (.int .u8 x)) g t j (x::l):=by
  obtain⟨cur,hg,hs,hd⟩:=h
  refine⟨cur.setIfInBounds j (.int .u8 x),?_,by simpa using hs,?_⟩
  · have hlt:g<w.heap.size:=(Array.getElem?_eq_some_iff.1 hg).1
    have hv:w.heap[g]= .cells cur t (0,0):=(Array.getElem?_eq_some_iff.1 hg).2
    unfold World.setCell
    rw[Array.getElem?_eq_getElem (by simpa using hlt),Array.getElem_modify]
    simp[hv]
  · have hlen:cur.toList.length=64:=by rw[Array.length_toList];exact hs
    rw[Array.toList_setIfInBounds,List.drop_eq_getElem_cons (by rw[List.length_set];omega),List.getElem_set_self,List.drop_set_of_lt (by omega),hd]
    rfl
theorem Out.text{P:Program}{w:World}{g:Nat}{t e src dst:TypeId}{j:Nat}{l:List Int}(h:Out w g t j l)(hs:P.underlying src=some (.slice e))(he:P.underlying e=some (.int .u8))(hd:P.underlying dst=some .string)(n cap:Nat)(hn:n=l.length):
    (convert src dst (.slice (some ⟨g,j,none⟩) n cap)).run P w= .ok (.string (strOfNums l)) w:=by
  subst hn
  obtain⟨cur,hg,hsz,hdr⟩:=h
  refine run_convert_bytes_arg w src e hs he g j l.length cap l rfl (fun i hi=>?_) dst hd
  rw[zab hg (j+i)]
  have h2:(cur.toList.drop j)[i]? =(nums .u8 l)[i]? :=by rw[hdr]
  rw[List.getElem?_drop,Array.getElem?_toList] at h2
  rw[h2]
  simp[nums,List.getElem?_eq_getElem hi,List.getD_eq_getElem?_getD]
theorem zea{w wr:World}(h:Below w.heap.size w wr)(c:Int)(j:Nat):Below w.heap.size w (wr.setCell ⟨w.heap.size,j,none⟩ (.int .u8 c)):=h.setCell (by simp) _
theorem ziz(W:World)(g j:Nat)(hj:j<64):(Instr.sliceAt 181 (.pointer (some ⟨g,0,none⟩)) (some (.int .i64 (j:Int))) none none).run Tryz.prog W= .ok (.slice (some ⟨g,j,none⟩) (64-j) (64-j)) W:=by
  have hu:=run_underlying (P:=Tryz.prog) Tryz.underlying181
  have hb:(Instr.sliceBounds false 64 64 (some (.int .i64 (j:Int))) none none).run Tryz.prog W= .ok (j,64,64) W:=by
    simp[Instr.sliceBounds,run_sliceBound,(by omega:(j:Int)≤64)]
  have hz:(sizeOf 5).run Tryz.prog W= .ok 1 W:=by kernel_rfl
  simp only[Instr.sliceAt,Instr.sureAddr,Sem.run_bind,hu,Result.andThen]
  simp[add_plain,hz]
  rw[hb]
  simp
  omega
set_option maxHeartbeats 4000000 in
set_option maxRecDepth 100000 in
theorem zbg.calls(a0 a1:Int)(a2:ByteArray)(r:ByteArray)(w:World)(h:zbg.f a0 a1 a2=some r):
    Calls Tryz.prog 145 #[.int .u64 a0,.int .u64 a1,.string a2] w fun e w'=>e= .returned (.string r)∧Below w.heap.size w w':=by
  unfold zbg.f at h
  split at h
  case isFalse=>cases h
  rename_i hc
  obtain⟨h0,h1,h2,h3,h4⟩:=hc
  obtain⟨N,rfl⟩: ∃N:Nat,a0=N:=⟨a0.toNat,by omega⟩
  obtain⟨b,rfl⟩: ∃b:Nat,a1=b:=⟨a1.toNat,by omega⟩
  rw[Int.toNat_natCast,Int.toNat_natCast] at h
  have hr:=Option.some.inj h
  clear h
  have HR:=zaa.mk hr
  clear hr
  have hP:N<b^64:=Nat.lt_of_lt_of_le (show N<2^64 by omega) (Nat.pow_le_pow_left (by omega) 64)
  have HP:=zaa.mk hP
  clear hP
  go_enter Tryz.func145,Tryz.ntmps145
  go_wp2
  go_loopw [0,8] (fun n i wr=> ∃(j m:Nat) (l:List Int),n= .int .u64 m∧i= .int .i64 ((j:Int)+1)∧j<64∧m≤18446744073709551615∧zaa (m<b^(j+1))∧zaa (dgF a2 b (j+1) m l=dgF a2 b 64 N [])∧zaa (l.length+j+1=64)∧zaa (Out wr w.heap.size 181 (j+1) l)∧zaa (Below w.heap.size w wr)) (fun _ i _=>(intOf i).toNat)
  case atStart=>exact⟨63,N,[],rfl,rfl,by omega,by omega,HP,⟨rfl⟩,⟨rfl⟩,⟨_,heap_alloc_new w _,by first|rfl|simp,by first|rfl|simp⟩,⟨(Below.refl _ _).alloc (Nat.le_refl _) _⟩⟩
  case round=>
    obtain⟨j,m,l,rfl,rfl,hj,hm,HM,HD,HL,HO,HB⟩:=hrel
    obtain⟨v0,I⟩:=HO.out.cell j hj
    have J:=HO.out.free j
    have K:(2:Int)≤(b:Int):=h2
    have hmod:(m:Int)%(b:Int)<(a2.size:Int):=Int.lt_of_lt_of_le (Int.emod_lt_of_pos _ (by omega)) h3
    have A:0≤(m:Int)%(b:Int):=Int.emod_nonneg _ (by omega)
    have hbt:=zch a2 ((m:Int)%(b:Int))
    have hcm:((m%b:Nat):Int)=(m:Int)%(b:Int):=by simp
    have hqm:((m / b:Nat):Int)=(m:Int) / (b:Int):=by simp
    have E:IntKind.u64.wrap ((m:Int) / (b:Int))=((m / b:Nat):Int):=by
      have hle:m / b≤m:=Nat.div_le_self _ _
      rw[←hqm]
      clear hqm hcm hbt hmod A
      generalize m / b=q at hle ⊢
      exact IntWalk.u64_in _ ⟨by omega,by omega⟩
    have HS:= @zix a2 b j m l
    have HE:= @ziy a2 b j m l
    rw[hcm] at HS HE
    have B:m / b<b^j:=Nat.div_lt_of_lt_mul (by have:=HM.out;rw[Nat.pow_succ,Nat.mul_comm] at this;exact this)
    have HQ:=zaa.mk (Nat.div_le_self m b)
    generalize bt a2 ((m:Int)%(b:Int))=c at hbt HS HE
    generalize m / b=q at E HS HE B HQ
    have hout:=zaa.mk (HO.out.set hj c)
    have hsl:=fun W=>ziz W w.heap.size j hj
    have hcv:=hout.out.text (src:=51) (dst:=9) Tryz.underlying51 Tryz.underlying5 Tryz.underlying9 (64-j) (64-j) (by have:=HL.out;simp;omega)
    have HSA:=zaa.mk HS
    have HEA:=zaa.mk HE
    have HMA:=zaa.mk B
    clear h0 h1 h3 h4 hcm hqm HS HE B
    have HBs:=zaa.mk (zea HB.out c j)
    go_wp2
    · go_ret
      have D:q=0:=by
        have hh:((q:Int)==0)=true:=by assumption
        have:=beq_iff_eq.mp hh
        omega
      exact⟨by show Ending.returned (.string (strOfNums (c::l)))= .returned (.string r);rw[←HR.out,←HD.out,HEA.out D],HBs.out⟩
    · have D:q≠0:=by
        have hh:((q:Int)==0)=false:=by assumption
        have:=beq_eq_false_iff_ne.mp hh
        omega
      have M:j≠0:=by
        intro e
        have:=HMA.out
        rw[e,Nat.pow_zero] at this
        omega
      obtain⟨i,rfl⟩: ∃i,j=i+1:=⟨j-1,by omega⟩
      go_roundw
      case rel=>exact⟨i,q,c::l,by go_num,by go_num,by omega,by have:=HQ.out;omega,HMA,⟨by rw[←HD.out,HSA.out D]⟩,⟨by have:=HL.out;simp;omega⟩,hout,HBs⟩
      case measure=>simp[intOf];omega
section
attribute [local go_sem] fnW_0 fnW_1 fnW_2 fnW_3 fnW_4 fnW_5 fnW_guard fnW_eql zaK zaL zaQ zaR
def zbd.f(a0:Int)(a1:Int):Option (ByteArray):=if a1=2 then((zbg.f a0 (IntKind.u64.wrap (a1)) (⟨#[48,49,50,51,52,53,54,55,56,57,97,98,99,100,101,102]⟩:ByteArray)).bind fun A=>(some A)) else(if a1=8 then((zbg.f a0 (IntKind.u64.wrap (a1)) (⟨#[48,49,50,51,52,53,54,55,56,57,97,98,99,100,101,102]⟩:ByteArray)).bind fun B=>(some B)) else(if a1=10 then((zbg.f a0 (IntKind.u64.wrap (a1)) (⟨#[48,49,50,51,52,53,54,55,56,57,97,98,99,100,101,102]⟩:ByteArray)).bind fun D=>(some D)) else(if a1=16 then((zbg.f a0 (IntKind.u64.wrap (a1)) (⟨#[48,49,50,51,52,53,54,55,56,57,97,98,99,100,101,102]⟩:ByteArray)).bind fun E=>(some E)) else(some (⟨#[]⟩:ByteArray)))))
theorem zbd.calls(a0:Int)(a1:Int)(r:ByteArray)(w:World)(h:zbd.f a0 a1=some r):
  Calls Tryz.prog 110 #[.int .u64 a0,.int .i64 a1] w fun e w'=>e= .returned (.string r)∧Below w.heap.size w w':=by
 have HB:=zaa.mk (Below.refl w.heap.size w)
 have H:(if a1=2 then((zbg.f a0 (IntKind.u64.wrap (a1)) (⟨#[48,49,50,51,52,53,54,55,56,57,97,98,99,100,101,102]⟩:ByteArray)).bind fun A=>(some A)) else(if a1=8 then((zbg.f a0 (IntKind.u64.wrap (a1)) (⟨#[48,49,50,51,52,53,54,55,56,57,97,98,99,100,101,102]⟩:ByteArray)).bind fun B=>(some B)) else(if a1=10 then((zbg.f a0 (IntKind.u64.wrap (a1)) (⟨#[48,49,50,51,52,53,54,55,56,57,97,98,99,100,101,102]⟩:ByteArray)).bind fun D=>(some D)) else(if a1=16 then((zbg.f a0 (IntKind.u64.wrap (a1)) (⟨#[48,49,50,51,52,53,54,55,56,57,97,98,99,100,101,102]⟩:ByteArray)).bind fun E=>(some E)) else(some (⟨#[]⟩:ByteArray))))))=some r:=h
 clear h
 by_cases c3:a1=2
 ·replace H:=hE H c3
  obtain⟨O,U⟩:=eT c3
  clear c3
  replace H:=bs H
  obtain⟨A,A4,H⟩:=H
  obtain rfl:=Option.some.inj H
  go_enter Tryz.func110,Tryz.ntmps110
  go_wp2_with (first|((with_reducible refine zac (f:=145) rfl ?_);refine zal (some 14) rfl rfl Tryz.func145 (by kernel_rfl) rfl #[.int .u64 a0,.int .u64 (IntKind.u64.wrap (a1)),.string (⟨#[48,49,50,51,52,53,54,55,56,57,97,98,99,100,101,102]⟩:ByteArray)] rfl lz ?_;(with_reducible refine(zbg.calls a0 (IntKind.u64.wrap (a1)) (⟨#[48,49,50,51,52,53,54,55,56,57,97,98,99,100,101,102]⟩:ByteArray) A _ A4.out).mono ?_);rintro e w5 ⟨rfl,hb⟩;refine⟨_,rfl,?_⟩;replace HB:=bN bz hb;(try clear hb);(try clear J);(try clear hk);(try clear hi)))
  go_ret
  exact⟨ez,bz⟩
 replace H:=hN H c3
 obtain⟨O,U⟩:=eF c3
 by_cases c6:a1=8
 ·replace H:=hE H c6
  obtain⟨X,Y⟩:=eT c6
  clear c6
  replace H:=bs H
  obtain⟨B,A7,H⟩:=H
  obtain rfl:=Option.some.inj H
  go_enter Tryz.func110,Tryz.ntmps110
  go_wp2_with (first|((with_reducible refine zac (f:=145) rfl ?_);refine zal (some 14) rfl rfl Tryz.func145 (by kernel_rfl) rfl #[.int .u64 a0,.int .u64 (IntKind.u64.wrap (a1)),.string (⟨#[48,49,50,51,52,53,54,55,56,57,97,98,99,100,101,102]⟩:ByteArray)] rfl lz ?_;(with_reducible refine(zbg.calls a0 (IntKind.u64.wrap (a1)) (⟨#[48,49,50,51,52,53,54,55,56,57,97,98,99,100,101,102]⟩:ByteArray) B _ A7.out).mono ?_);rintro e w8 ⟨rfl,hb⟩;refine⟨_,rfl,?_⟩;replace HB:=bN bz hb;(try clear hb);(try clear J);(try clear hk);(try clear hi)))
  go_ret
  exact⟨ez,bz⟩
 replace H:=hN H c6
 obtain⟨X,Y⟩:=eF c6
 by_cases c9:a1=10
 ·replace H:=hE H c9
  obtain⟨Z,aa⟩:=eT c9
  clear c9
  replace H:=bs H
  obtain⟨D,ab,H⟩:=H
  obtain rfl:=Option.some.inj H
  go_enter Tryz.func110,Tryz.ntmps110
  go_wp2_with (first|((with_reducible refine zac (f:=145) rfl ?_);refine zal (some 14) rfl rfl Tryz.func145 (by kernel_rfl) rfl #[.int .u64 a0,.int .u64 (IntKind.u64.wrap (a1)),.string (⟨#[48,49,50,51,52,53,54,55,56,57,97,98,99,100,101,102]⟩:ByteArray)] rfl lz ?_;(with_reducible refine(zbg.calls a0 (IntKind.u64.wrap (a1)) (⟨#[48,49,50,51,52,53,54,55,56,57,97,98,99,100,101,102]⟩:ByteArray) D _ ab.out).mono ?_);rintro e ad ⟨rfl,hb⟩;refine⟨_,rfl,?_⟩;replace HB:=bN bz hb;(try clear hb);(try clear J);(try clear hk);(try clear hi)))
  go_ret
  exact⟨ez,bz⟩
 replace H:=hN H c9
 obtain⟨Z,aa⟩:=eF c9
 by_cases I:a1=16
 ·replace H:=hE H I
  obtain⟨K,M⟩:=eT I
  clear I
  replace H:=bs H
  obtain⟨E,ac,H⟩:=H
  obtain rfl:=Option.some.inj H
  go_enter Tryz.func110,Tryz.ntmps110
  go_wp2_with (first|((with_reducible refine zac (f:=145) rfl ?_);refine zal (some 14) rfl rfl Tryz.func145 (by kernel_rfl) rfl #[.int .u64 a0,.int .u64 (IntKind.u64.wrap (a1)),.string (⟨#[48,49,50,51,52,53,54,55,56,57,97,98,99,100,101,102]⟩:ByteArray)] rfl lz ?_;(with_reducible refine(zbg.calls a0 (IntKind.u64.wrap (a1)) (⟨#[48,49,50,51,52,53,54,55,56,57,97,98,99,100,101,102]⟩:ByteArray) E _ ac.out).mono ?_);rintro e ae ⟨rfl,hb⟩;refine⟨_,rfl,?_⟩;replace HB:=bN bz hb;(try clear hb);(try clear J);(try clear hk);(try clear hi)))
  go_ret
  exact⟨ez,bz⟩
 replace H:=hN H I
 obtain⟨K,M⟩:=eF I
 obtain rfl:=Option.some.inj H
 go_enter Tryz.func110,Tryz.ntmps110
 go_wp2
 go_ret
 exact⟨ez,bz⟩
def zbq.f(a0:ByteArray)(a1:Int)(a2:Int):Option (ByteArray):=if a1<0 then((zbd.f (IntKind.u64.wrap (wrap64 (-a1))) 10).bind fun A=>((strings_Repeat.f (⟨#[48]⟩:ByteArray) (mx 0 (wrap64 (a2-(A.size:Int))))).bind fun D=>((zaC.f (([a0,(⟨#[45]⟩:ByteArray),D,A]:List ByteArray))).bind fun E=>(some E)))) else((zbd.f (IntKind.u64.wrap (a1)) 10).bind fun B=>((strings_Repeat.f (⟨#[48]⟩:ByteArray) (mx 0 (wrap64 (a2-(B.size:Int))))).bind fun I=>((zaC.f (([a0,(⟨#[43]⟩:ByteArray),I,B]:List ByteArray))).bind fun J=>(some J))))
theorem zbq.calls(a0:ByteArray)(a1:Int)(a2:Int)(r:ByteArray)(w:World)(h:zbq.f a0 a1 a2=some r):
  Calls Tryz.prog 111 #[.string a0,.int .i64 a1,.int .i64 a2] w fun e w'=>e= .returned (.string r)∧Below w.heap.size w w':=by
 have HB:=zaa.mk (Below.refl w.heap.size w)
 have H:(if a1<0 then((zbd.f (IntKind.u64.wrap (wrap64 (-a1))) 10).bind fun A=>((strings_Repeat.f (⟨#[48]⟩:ByteArray) (mx 0 (wrap64 (a2-(A.size:Int))))).bind fun J=>((zaC.f (([a0,(⟨#[45]⟩:ByteArray),J,A]:List ByteArray))).bind fun aa=>(some aa)))) else((zbd.f (IntKind.u64.wrap (a1)) 10).bind fun B=>((strings_Repeat.f (⟨#[48]⟩:ByteArray) (mx 0 (wrap64 (a2-(B.size:Int))))).bind fun K=>((zaC.f (([a0,(⟨#[43]⟩:ByteArray),K,B]:List ByteArray))).bind fun ab=>(some ab)))))=some r:=h
 clear h
 by_cases c4:a1<0
 ·replace H:=hE H c4
  have am:=decide_eq_true c4
  clear c4
  replace H:=bs H
  obtain⟨A,A5,H⟩:=H
  obtain⟨ag,O⟩: ∃j_:Int,(mx 0 (wrap64 (a2-(A.size:Int))))=j_:=⟨_,rfl⟩
  (first|rw[O] at H|simp only[O] at H)
  (try rw[O] at A5)
  (try(have aA:0≤ag:=by(rw[←O];unfold mx;(repeat' split)<;>omega)))
  (try(have aB:0≤ag:=by omega))
  have aC:(if 0<(wrap64 (a2-(A.size:Int))) then(wrap64 (a2-(A.size:Int))) else 0)=ag:=O
  replace H:=bs H
  obtain⟨J,A7,H⟩:=H
  obtain⟨ah,U⟩: ∃y_:List ByteArray,y_=(([a0,(⟨#[45]⟩:ByteArray),J,A]:List ByteArray)):=⟨_,rfl⟩
  replace H:((zaC.f ah).bind fun aa=>(some aa))=some r:=by first|(rw[U];with_reducible exact H)|(have af:=(Option.bind_some _ _).symm.trans H;rw[U];with_reducible exact af)|(have af:=(Option.bind_some _ _).symm.trans H;with_reducible exact af)|with_reducible exact H|(rw[U];exact H)|exact H
  have ai:=zaa.mk U
  clear U
  replace H:=bs H
  obtain⟨aa,A8,H⟩:=H
  obtain rfl:=Option.some.inj H
  go_enter Tryz.func111,Tryz.ntmps111
  go_wp2_with (first|((with_reducible refine zac (f:=110) rfl ?_);refine zal (some 15) rfl rfl Tryz.func110 (by kernel_rfl) rfl #[.int .u64 (IntKind.u64.wrap (wrap64 (-a1))),.int .i64 10] rfl lz ?_;(with_reducible refine(zbd.calls (IntKind.u64.wrap (wrap64 (-a1))) 10 A _ A5.out).mono ?_);rintro e w9 ⟨rfl,hb⟩;refine⟨_,rfl,?_⟩;replace HB:=bN bz hb;(try clear hb);(try clear aj);(try clear hk);(try clear hi))|((with_reducible refine zac (f:=46) rfl ?_);refine zal (some 23) rfl rfl Tryz.func46 (by kernel_rfl) rfl #[.string (⟨#[48]⟩:ByteArray),.int .i64 ag] rfl (by(try simp only[List.map_toArray,List.map_cons,List.map_nil]);first|done|(simp only[O];rfl)|rfl|(simp only[List.length_drop,List.length_take];rfl)) ?_;(with_reducible refine(strings_Repeat.calls (⟨#[48]⟩:ByteArray) ag J _ A7.out).mono ?_);rintro e aH ⟨rfl,hb⟩;refine⟨_,rfl,?_⟩;replace HB:=bN bz hb;(try clear hb);(try clear aj);(try clear hk);(try clear hi))|((with_reducible refine zak (N:=25) rfl ?_);refine Kd.R_lit Kd.string _ 9 ?hg (N:=25) ?hd (xs:=([a0,(⟨#[45]⟩:ByteArray),J,A]:List ByteArray)) (inner:=[.string a0,.string (⟨#[45]⟩:ByteArray),.string J,.string A]) (ok:=fun _=>True) (okp:=fun _=>True) ?hr ?hp (fun _ hk=>hk) trivial (Below.refl _ _) (Nat.le_refl _) (by simp) ?_;(case hd=>rfl);(case hg=>rfl);(case hr=>first|(go_simp;done)|(go_simp;rfl));(case hp=>exact(Reps.one (show Kd.M Kd.string _ _ _ a0 [.string a0] from rfl) (Reps.one (show Kd.M Kd.string _ _ _ (⟨#[45]⟩:ByteArray) [.string (⟨#[45]⟩:ByteArray)] from rfl) (Reps.one (show Kd.M Kd.string _ _ _ J [.string J] from rfl) (Reps.one (show Kd.M Kd.string _ _ _ A [.string A] from rfl) (Reps.none _ _))))));intro aF aI ac hb hg_ hnew_;clear hg_ hnew_;(first|rw[←ai.out] at ac|(simp only[Int.reduceToNat] at ac;rw[←ai.out] at ac));have X:=zaa.mk (Kd.R_lower ac (zaI bz));have Y:=zaa.mk (zam bz hb);clear HB;have E:=X;have HB:=Y;clear X Y;clear hb ac;obtain⟨an,ao,ap⟩:=Kd.R_slice E.out;subst ap)|((with_reducible refine zac (f:=109) rfl ?_);refine zal (some 26) rfl rfl Tryz.func109 (by kernel_rfl) rfl #[.slice an ah.length ao] rfl lz ?_;(with_reducible refine(zaC.calls _ _ ah aa _ ?side1 ?side2 A8.out).mono ?_);(case side1=>repeat(first|exact(Kd.R_reads' E.out).2.2|(with_reducible refine Kd.C_alloc ?_ _)|(with_reducible refine Kd.C_drewN ?_ _)|(with_reducible refine Kd.C_drew ?_)));(case side2=>exact(Kd.R_reads' E.out).2.1);rintro e aJ ⟨rfl,hb⟩;refine⟨_,rfl,?_⟩;have X:=zaa.mk (Kd.R_below (by(with_reducible repeat(first|apply Kd.R_alloc|apply Kd.R_drewN|apply Kd.R_drew));exact E.out) hb);have Y:=zaa.mk (zam bz hb);clear E;clear HB;have E:=X;have HB:=Y;clear X Y;(try clear hb);(try clear aj);(try clear hk);(try clear hi)))
  go_ret
  exact⟨by first|rfl|(simp[zan,zao]<;>rfl)|(simp only[←O];first|rfl|(simp[zan,zao]<;>rfl))|(simp[*,zan,zao]<;>rfl),bz⟩
 replace H:=hN H c4
 have am:=decide_eq_false c4
 clear c4
 replace H:=bs H
 obtain⟨B,ar,H⟩:=H
 obtain⟨ad,D⟩: ∃j_:Int,(mx 0 (wrap64 (a2-(B.size:Int))))=j_:=⟨_,rfl⟩
 (first|rw[D] at H|simp only[D] at H)
 (try rw[D] at ar)
 (try(have ax:0≤ad:=by(rw[←D];unfold mx;(repeat' split)<;>omega)))
 (try(have ay:0≤ad:=by omega))
 have az:(if 0<(wrap64 (a2-(B.size:Int))) then(wrap64 (a2-(B.size:Int))) else 0)=ad:=D
 replace H:=bs H
 obtain⟨K,aD,H⟩:=H
 obtain⟨ak,Z⟩: ∃y_:List ByteArray,y_=(([a0,(⟨#[43]⟩:ByteArray),K,B]:List ByteArray)):=⟨_,rfl⟩
 replace H:((zaC.f ak).bind fun ab=>(some ab))=some r:=by first|(rw[Z];with_reducible exact H)|(have af:=(Option.bind_some _ _).symm.trans H;rw[Z];with_reducible exact af)|(have af:=(Option.bind_some _ _).symm.trans H;with_reducible exact af)|with_reducible exact H|(rw[Z];exact H)|exact H
 have al:=zaa.mk Z
 clear Z
 replace H:=bs H
 obtain⟨ab,aE,H⟩:=H
 obtain rfl:=Option.some.inj H
 go_enter Tryz.func111,Tryz.ntmps111
 go_wp2_with (first|((with_reducible refine zac (f:=110) rfl ?_);refine zal (some 15) rfl rfl Tryz.func110 (by kernel_rfl) rfl #[.int .u64 (IntKind.u64.wrap (a1)),.int .i64 10] rfl lz ?_;(with_reducible refine(zbd.calls (IntKind.u64.wrap (a1)) 10 B _ ar.out).mono ?_);rintro e aK ⟨rfl,hb⟩;refine⟨_,rfl,?_⟩;replace HB:=bN bz hb;(try clear hb);(try clear aj);(try clear hk);(try clear hi))|((with_reducible refine zac (f:=46) rfl ?_);refine zal (some 23) rfl rfl Tryz.func46 (by kernel_rfl) rfl #[.string (⟨#[48]⟩:ByteArray),.int .i64 ad] rfl (by(try simp only[List.map_toArray,List.map_cons,List.map_nil]);first|done|(simp only[D];rfl)|rfl|(simp only[List.length_drop,List.length_take];rfl)) ?_;(with_reducible refine(strings_Repeat.calls (⟨#[48]⟩:ByteArray) ad K _ aD.out).mono ?_);rintro e aL ⟨rfl,hb⟩;refine⟨_,rfl,?_⟩;replace HB:=bN bz hb;(try clear hb);(try clear aj);(try clear hk);(try clear hi))|((with_reducible refine zak (N:=25) rfl ?_);refine Kd.R_lit Kd.string _ 9 ?hg (N:=25) ?hd (xs:=([a0,(⟨#[43]⟩:ByteArray),K,B]:List ByteArray)) (inner:=[.string a0,.string (⟨#[43]⟩:ByteArray),.string K,.string B]) (ok:=fun _=>True) (okp:=fun _=>True) ?hr ?hp (fun _ hk=>hk) trivial (Below.refl _ _) (Nat.le_refl _) (by simp) ?_;(case hd=>rfl);(case hg=>rfl);(case hr=>first|(go_simp;done)|(go_simp;rfl));(case hp=>exact(Reps.one (show Kd.M Kd.string _ _ _ a0 [.string a0] from rfl) (Reps.one (show Kd.M Kd.string _ _ _ (⟨#[43]⟩:ByteArray) [.string (⟨#[43]⟩:ByteArray)] from rfl) (Reps.one (show Kd.M Kd.string _ _ _ K [.string K] from rfl) (Reps.one (show Kd.M Kd.string _ _ _ B [.string B] from rfl) (Reps.none _ _))))));intro aG aM ae hb hg_ hnew_;clear hg_ hnew_;(first|rw[←al.out] at ae|(simp only[Int.reduceToNat] at ae;rw[←al.out] at ae));have X:=zaa.mk (Kd.R_lower ae (zaI bz));have Y:=zaa.mk (zam bz hb);clear HB;have I:=X;have HB:=Y;clear X Y;clear hb ae;obtain⟨au,av,aw⟩:=Kd.R_slice I.out;subst aw)|((with_reducible refine zac (f:=109) rfl ?_);refine zal (some 26) rfl rfl Tryz.func109 (by kernel_rfl) rfl #[.slice au ak.length av] rfl lz ?_;(with_reducible refine(zaC.calls _ _ ak ab _ ?side1 ?side2 aE.out).mono ?_);(case side1=>repeat(first|exact(Kd.R_reads' I.out).2.2|(with_reducible refine Kd.C_alloc ?_ _)|(with_reducible refine Kd.C_drewN ?_ _)|(with_reducible refine Kd.C_drew ?_)));(case side2=>exact(Kd.R_reads' I.out).2.1);rintro e aN ⟨rfl,hb⟩;refine⟨_,rfl,?_⟩;have X:=zaa.mk (Kd.R_below (by(with_reducible repeat(first|apply Kd.R_alloc|apply Kd.R_drewN|apply Kd.R_drew));exact I.out) hb);have Y:=zaa.mk (zam bz hb);clear I;clear HB;have I:=X;have HB:=Y;clear X Y;(try clear hb);(try clear aj);(try clear hk);(try clear hi)))
 go_ret
 exact⟨by first|rfl|(simp[zan,zao]<;>rfl)|(simp only[←D];first|rfl|(simp[zan,zao]<;>rfl))|(simp[*,zan,zao]<;>rfl),bz⟩
end
end Go.Proofs.YtecpgdfnamkfdaaGreatDoor.Fn
end
