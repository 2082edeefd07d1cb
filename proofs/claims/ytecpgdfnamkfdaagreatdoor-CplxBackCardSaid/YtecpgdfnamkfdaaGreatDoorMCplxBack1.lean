/- The law CplxBack: the walks through its functions and its plain law (part 1). Own texts and the kit's printed words for this seat, without what the law does not use: put together by merge.py (of this work). -/
import Derived.Test.YtecpgdfnamkfdaaGreatDoorMCplxBack0
section
namespace Go.Proofs.YtecpgdfnamkfdaaGreatDoor.Fn
open Go.RowKit Go.Proofs.YtecpgdfnamkfdaaGreatDoorW.PrintWords Go.Proofs.YtecpgdfnamkfdaaGreatDoorW.PrintLast Go.Proofs.YtecpgdfnamkfdaaGreatDoorW.PrintMore
set_option linter.unusedVariables false
set_option linter.unusedSimpArgs false
set_option maxHeartbeats 8000000
set_option maxRecDepth 100000
section
attribute [local go_sem] fnW_0 fnW_1 fnW_2 fnW_3 fnW_4 fnW_5 fnW_guard fnW_eql zaD zaE zaI zaJ
def zbn.f(k:Nat)(I:ByteArray)(J:Int)(D:ByteArray)(E:Int):Option (ByteArray×Int×ByteArray×Int×Int):=(zaB.f k I J).bind fun A=>(if A.2.2=0 then((zaB.f k D E).bind fun B=>(some (A.1,A.2.1,B.1,B.2.1,B.2.2))) else(some (A.1,A.2.1,D,E,A.2.2)))
theorem zbn.calls(k:Nat)(ae:ByteArray)(af:Int)(ac:ByteArray)(ad:Int)(r1:ByteArray)(r2:Int)(r3:ByteArray)(r4:Int)(r5:Int)(w:World)(h:zbn.f k ae af ac ad=some (r1,r2,r3,r4,r5)):
  Calls Tryz.prog 127 #[.agg #[.string ae,.int .i64 af],.agg #[.string ac,.int .i64 ad]] w fun e w'=>e= .returned (.tuple #[.agg #[.string r1,.int .i64 r2],.agg #[.string r3,.int .i64 r4],.int .i64 r5])∧Below w.heap.size w w':=by
 have cm:=Tryz.underlying42
 have HB:=zaa.mk (Below.refl w.heap.size w)
 have H:((zaB.f k ae af).bind fun ao=>(if ao.2.2=0 then((zaB.f k ac ad).bind fun au=>(some (ao.1,ao.2.1,au.1,au.2.1,au.2.2))) else(some (ao.1,ao.2.1,ac,ad,ao.2.2))))=some (r1,r2,r3,r4,r5):=h
 clear h
 replace H:=bs H
 obtain⟨⟨ak,al,aH⟩,A3,H⟩:=H
 dsimp only at H
 go_enter Tryz.func127,Tryz.ntmps127
 go_upto_if 14 with(first|((with_reducible refine zah (N:=2) rfl ?_);refine zag rfl (N:=2) rfl (cs:=#[.string ae,.int .i64 af]) (t:=42) gz ?_;intro A hg w4 hbox hb;have bW:=gN bz hg;have U:=zaa.mk hbox;replace HB:=bN bz hb;clear hb hbox hg)|((with_reducible refine zah (N:=3) rfl ?_);refine zag rfl (N:=3) rfl (cs:=#[.string ac,.int .i64 ad]) (t:=42) gz ?_;intro M hg w5 hbox hb;have bX:=gN bz hg;have ap:=lN (g:=A) (cs:=#[.string ae,.int .i64 af]) hg bk;have ar:=rN (g:=A) (cs:=#[.string ae,.int .i64 af]) hg bk;replace U:=kN (g:=A) (cs:=#[.string ae,.int .i64 af]) hb bk;have Y:=zaa.mk hbox;replace HB:=bN bz hb;clear hb hbox hg)|((with_reducible refine zah (N:=4) rfl ?_);refine zag rfl (N:=4) rfl (cs:=#[.string (⟨#[]⟩:ByteArray),.int .i64 0]) (t:=42) gz ?_;intro B hg w6 hbox hb;have bY:=gN bz hg;have D:=lN (g:=A) (cs:=#[.string ae,.int .i64 af]) hg bk;have ag:=rN (g:=A) (cs:=#[.string ae,.int .i64 af]) hg bk;have E:=lN (g:=M) (cs:=#[.string ac,.int .i64 ad]) hg bk;have ah:=rN (g:=M) (cs:=#[.string ac,.int .i64 ad]) hg bk;replace U:=kN (g:=A) (cs:=#[.string ae,.int .i64 af]) hb bk;replace Y:=kN (g:=M) (cs:=#[.string ac,.int .i64 ad]) hb bk;have X:=zaa.mk hbox;replace HB:=bN bz hb;clear hb hbox hg)|((with_reducible refine zah (N:=5) rfl ?_);refine zag rfl (N:=5) rfl (cs:=#[.string (⟨#[]⟩:ByteArray),.int .i64 0]) (t:=42) gz ?_;intro O hg w7 hbox hb;have bZ:=gN bz hg;have I:=lN (g:=A) (cs:=#[.string ae,.int .i64 af]) hg bk;have ai:=rN (g:=A) (cs:=#[.string ae,.int .i64 af]) hg bk;have J:=lN (g:=M) (cs:=#[.string ac,.int .i64 ad]) hg bk;have aj:=rN (g:=M) (cs:=#[.string ac,.int .i64 ad]) hg bk;have aa:=lN (g:=B) (cs:=#[.string (⟨#[]⟩:ByteArray),.int .i64 0]) hg bk;have ab:=rN (g:=B) (cs:=#[.string (⟨#[]⟩:ByteArray),.int .i64 0]) hg bk;replace U:=kN (g:=A) (cs:=#[.string ae,.int .i64 af]) hb bk;replace Y:=kN (g:=M) (cs:=#[.string ac,.int .i64 ad]) hb bk;replace X:=kN (g:=B) (cs:=#[.string (⟨#[]⟩:ByteArray),.int .i64 0]) hb bk;have Z:=zaa.mk hbox;replace HB:=bN bz hb;clear hb hbox hg;have cn:=ap.out;have co:=ar.out;have cp:=D.out;have cq:=ag.out;have b0:=I.out;have b1:=ai.out;obtain⟨aI,aJ,aK,aL⟩:=cz2 U)|((with_reducible refine zad (f:=50) rfl ?_);refine gB Tryz.func50 (zaB.calls k ae af ak al aH _ A3.out) ?_;intro aC hb;replace U:=kN (g:=A) (cs:=#[.string ae,.int .i64 af]) hb bk;replace Y:=kN (g:=M) (cs:=#[.string ac,.int .i64 ad]) hb bk;replace X:=kN (g:=B) (cs:=#[.string (⟨#[]⟩:ByteArray),.int .i64 0]) hb bk;replace Z:=kN (g:=O) (cs:=#[.string (⟨#[]⟩:ByteArray),.int .i64 0]) hb bk;replace HB:=bN bz hb;clear hb;obtain⟨aM,aN,aO,aP⟩:=cz2 U))
 (try simp only[Act.put,List.setIfInBounds_toArray,List.set_cons_zero,List.set_cons_succ])
 by_cases aE:aH=0
 ·replace H:=hE H aE
  obtain⟨av,aw⟩:=eT aE
  clear aE
  try first|rw[av]|rw[aw]
  replace H:=bs H
  obtain⟨⟨am,an,aQ⟩,b2,H⟩:=H
  dsimp only at H
  simp only[Option.some.injEq,Prod.mk.injEq] at H
  obtain⟨rfl,rfl,rfl,rfl,rfl⟩:=H
  have b3:=ar.out
  have b4:=ap.out
  have b5:=E.out
  have b6:=ah.out
  have b7:=J.out
  have b8:=aj.out
  obtain⟨aR,aS,aT,aU⟩:=cz2 Y
  try go_wp2_with (first|((with_reducible refine zad (f:=50) rfl ?_);refine gB Tryz.func50 (zaB.calls k ac ad am an aQ _ b2.out) ?_;intro aD hb;replace U:=kN (g:=A) (cs:=#[.string ak,.int .i64 al]) hb bk;replace Y:=kN (g:=M) (cs:=#[.string ac,.int .i64 ad]) hb bk;replace X:=kN (g:=B) (cs:=#[.string (⟨#[]⟩:ByteArray),.int .i64 0]) hb bk;replace Z:=kN (g:=O) (cs:=#[.string (⟨#[]⟩:ByteArray),.int .i64 0]) hb bk;replace HB:=bN bz hb;clear hb;obtain⟨aV,aW,aX,aY⟩:=cz2 Y))
  have ax:zaa (((aD.setCell ⟨M,0,none⟩ (.string am)).setCell ⟨M,1,none⟩ (.int .i64 an)).heap[A]? =some (.cells #[.string ak,.int .i64 al] 42 (0,0))):=⟨bk⟩
  have ay:zaa (((aD.setCell ⟨M,0,none⟩ (.string am)).setCell ⟨M,1,none⟩ (.int .i64 an)).heap[M]? =some (.cells #[.string am,.int .i64 an] 42 (0,0))):=⟨bk⟩
  have az:zaa (((aD.setCell ⟨M,0,none⟩ (.string am)).setCell ⟨M,1,none⟩ (.int .i64 an)).heap[B]? =some (.cells #[.string (⟨#[]⟩:ByteArray),.int .i64 0] 42 (0,0))):=⟨bk⟩
  have aA:zaa (((aD.setCell ⟨M,0,none⟩ (.string am)).setCell ⟨M,1,none⟩ (.int .i64 an)).heap[O]? =some (.cells #[.string (⟨#[]⟩:ByteArray),.int .i64 0] 42 (0,0))):=⟨bk⟩
  have aB:zaa (Below w.heap.size w ((aD.setCell ⟨M,0,none⟩ (.string am)).setCell ⟨M,1,none⟩ (.int .i64 an))):=⟨bz⟩
  (try clear U)
  (try clear Y)
  (try clear X)
  (try clear Z)
  (try clear HB)
  generalize ((aD.setCell ⟨M,0,none⟩ (.string am)).setCell ⟨M,1,none⟩ (.int .i64 an))=ca at ax ay az aA aB ⊢
  have U:=ax
  have Y:=ay
  have X:=az
  have Z:=aA
  have HB:=aB
  clear ax ay az aA aB
  replace U:=zaa.mk (zao U.out)
  replace Y:=zaa.mk (zao Y.out)
  replace X:=zaa.mk (zao X.out)
  replace Z:=zaa.mk (zao Z.out)
  replace HB:=zaa.mk (zaH HB.out)
  refine za8 (n:=6) (S:=fun w'=>w'.cell? ⟨A,0,none⟩=some (.string ak)∧w'.cell? ⟨A,1,none⟩=some (.int .i64 al)∧w'.cell? ⟨M,0,none⟩=some (.string am)∧w'.cell? ⟨M,1,none⟩=some (.int .i64 an)) (ds:=[]) #[false,false,false,false,false,false] (by kernel_rfl) rfl rfl ⟨(zab U.out 0).trans rfl,(zab U.out 1).trans rfl,(zab Y.out 0).trans rfl,(zab Y.out 1).trans rfl⟩ (fun hHeld=>?_)
  generalize ca.drew=aF at U Y X Z HB hHeld ⊢
  refine zbr (i:=2) (N:=some 25) (v:=?_) (a':=?_) #[false,false,true,false,false,false] rfl rfl (by kernel_rfl) (fun _ _ _ h=>h) (Or.inl ⟨by rfl,?_⟩) ?_ ?_
  rotate_left
  ·intro w'
   go_simp
   with_reducible rfl
  rotate_left
  ·simp only[Act.put,List.setIfInBounds_toArray,List.set_cons_zero,List.set_cons_succ,zar,zau]
   rfl
  refine zcg (i:=0) (N:=some 23) (v:=?_) (a':=?_) #[true,false,true,false,false,false] rfl rfl (by kernel_rfl) (fun _ _ _ h=>h) (Or.inl ⟨by rfl,?_⟩) hHeld ?_ ?_
  rotate_left
  ·rintro w' ⟨s0,s1,s2,s3⟩
   go_simp
   with_reducible rfl
  rotate_left
  ·simp only[Act.put,List.setIfInBounds_toArray,List.set_cons_zero,List.set_cons_succ,zar,zau]
   rfl
  refine zcg (i:=1) (N:=some 24) (v:=?_) (a':=?_) #[true,true,true,false,false,false] rfl rfl (by kernel_rfl) (fun _ _ _ h=>h) (Or.inl ⟨by rfl,?_⟩) hHeld ?_ ?_
  rotate_left
  ·rintro w' ⟨s0,s1,s2,s3⟩
   go_simp
   with_reducible rfl
  rotate_left
  ·simp only[Act.put,List.setIfInBounds_toArray,List.set_cons_zero,List.set_cons_succ,zar,zau]
   rfl
  refine one_ (i:=3) (N:=none) #[true,true,true,true,false,false] rfl rfl (by kernel_rfl) (by decide) (fun K hK=>?_)
  have cr:aF.cell? ⟨B,0,none⟩=some (.string (⟨#[]⟩:ByteArray)):=(zab X.out 0).trans rfl
  have cb:=zaC X.out 0
  have aZ:=D.out
  have a1:=E.out
  have a2:=ab.out
  have a3:=ag.out
  have a4:=ah.out
  have a5:=aa.out
  have ct:aF.cell? ⟨B,1,none⟩=some (.int .i64 0):=(zab X.out 1).trans rfl
  have cc:=zaC X.out 1
  have a6:=D.out
  have a7:=E.out
  have a8:=ab.out
  have a9:=ag.out
  have ba:=ah.out
  have bb:=aa.out
  refine zd6 (w1:=?_) (by rfl) rfl ?_ ?_
  rotate_left
  ·go_simp
   rfl
  refine hK.out _ _ ⟨((cell_far (p:=⟨B,_,none⟩) D.out _).trans (((cell_far (p:=⟨B,_,none⟩) D.out _).trans (hHeld.1)))),((cell_far (p:=⟨B,_,none⟩) D.out _).trans (((cell_far (p:=⟨B,_,none⟩) D.out _).trans (hHeld.2.1)))),((cell_far (p:=⟨B,_,none⟩) E.out _).trans (((cell_far (p:=⟨B,_,none⟩) E.out _).trans (hHeld.2.2.1)))),((cell_far (p:=⟨B,_,none⟩) E.out _).trans (((cell_far (p:=⟨B,_,none⟩) E.out _).trans (hHeld.2.2.2))))⟩ (fun hHeld=>?_)
  clear hK K
  refine one_ (i:=4) (N:=none) #[true,true,true,true,true,false] rfl rfl (by kernel_rfl) (by decide) (fun K hK=>?_)
  have cu:aF.cell? ⟨O,0,none⟩=some (.string (⟨#[]⟩:ByteArray)):=(zab Z.out 0).trans rfl
  have cd:=zaC Z.out 0
  have bd:=I.out
  have be:=J.out
  have bf:=aa.out
  have bg:=ai.out
  have bh:=aj.out
  have bi:=ab.out
  have cv:aF.cell? ⟨O,1,none⟩=some (.int .i64 0):=(zab Z.out 1).trans rfl
  have ce:=zaC Z.out 1
  have bj:=I.out
  have bl:=J.out
  have bm:=aa.out
  have bn:=ai.out
  have bo:=aj.out
  have bp:=ab.out
  refine zd6 (w1:=?_) (by rfl) rfl ?_ ?_
  rotate_left
  ·go_simp
   rfl
  refine hK.out _ _ ⟨((cell_far (p:=⟨O,_,none⟩) I.out _).trans (((cell_far (p:=⟨O,_,none⟩) I.out _).trans (hHeld.1)))),((cell_far (p:=⟨O,_,none⟩) I.out _).trans (((cell_far (p:=⟨O,_,none⟩) I.out _).trans (hHeld.2.1)))),((cell_far (p:=⟨O,_,none⟩) J.out _).trans (((cell_far (p:=⟨O,_,none⟩) J.out _).trans (hHeld.2.2.1)))),((cell_far (p:=⟨O,_,none⟩) J.out _).trans (((cell_far (p:=⟨O,_,none⟩) J.out _).trans (hHeld.2.2.2))))⟩ (fun hHeld=>?_)
  clear hK K
  refine zbr (i:=5) (N:=some 6) (v:=?_) (a':=?_) #[true,true,true,true,true,true] rfl rfl (by kernel_rfl) (fun _ _ _ h=>h) (Or.inl ⟨by rfl,?_⟩) ?_ ?_
  rotate_left
  ·intro w'
   go_simp
   with_reducible rfl
  rotate_left
  ·simp only[Act.put,List.setIfInBounds_toArray,List.set_cons_zero,List.set_cons_succ,zar,zau]
   rfl
  refine zc5 (by kernel_rfl) ?_
  try go_wp2
  refine bodyPost_ret (zbB (rs:=[.cell 4 42,.cell 5 42,.tmp 6]) rfl (by simp) (.cell B 42 #[.string ak,.int .i64 al] (0,0) _ rfl bk Tryz.underlying42 rfl (by kernel_rfl) (.cell O 42 #[.string am,.int .i64 an] (0,0) _ rfl bk Tryz.underlying42 rfl (by kernel_rfl) (.tmp .nil)))) rfl ?_
  exact⟨ez,bz⟩
 replace H:=hN H aE
 obtain⟨av,aw⟩:=eF aE
 try first|rw[av]|rw[aw]
 simp only[Option.some.injEq,Prod.mk.injEq] at H
 obtain⟨rfl,rfl,rfl,rfl,rfl⟩:=H
 try go_wp2
 have ax:zaa (((aC.setCell ⟨A,0,none⟩ (.string ak)).setCell ⟨A,1,none⟩ (.int .i64 al)).heap[A]? =some (.cells #[.string ak,.int .i64 al] 42 (0,0))):=⟨bk⟩
 have ay:zaa (((aC.setCell ⟨A,0,none⟩ (.string ak)).setCell ⟨A,1,none⟩ (.int .i64 al)).heap[M]? =some (.cells #[.string ac,.int .i64 ad] 42 (0,0))):=⟨bk⟩
 have az:zaa (((aC.setCell ⟨A,0,none⟩ (.string ak)).setCell ⟨A,1,none⟩ (.int .i64 al)).heap[B]? =some (.cells #[.string (⟨#[]⟩:ByteArray),.int .i64 0] 42 (0,0))):=⟨bk⟩
 have aA:zaa (((aC.setCell ⟨A,0,none⟩ (.string ak)).setCell ⟨A,1,none⟩ (.int .i64 al)).heap[O]? =some (.cells #[.string (⟨#[]⟩:ByteArray),.int .i64 0] 42 (0,0))):=⟨bk⟩
 have aB:zaa (Below w.heap.size w ((aC.setCell ⟨A,0,none⟩ (.string ak)).setCell ⟨A,1,none⟩ (.int .i64 al))):=⟨bz⟩
 (try clear U)
 (try clear Y)
 (try clear X)
 (try clear Z)
 (try clear HB)
 generalize ((aC.setCell ⟨A,0,none⟩ (.string ak)).setCell ⟨A,1,none⟩ (.int .i64 al))=cf at ax ay az aA aB ⊢
 have U:=ax
 have Y:=ay
 have X:=az
 have Z:=aA
 have HB:=aB
 clear ax ay az aA aB
 replace U:=zaa.mk (zao U.out)
 replace Y:=zaa.mk (zao Y.out)
 replace X:=zaa.mk (zao X.out)
 replace Z:=zaa.mk (zao Z.out)
 replace HB:=zaa.mk (zaH HB.out)
 refine za8 (n:=6) (S:=fun w'=>w'.cell? ⟨A,0,none⟩=some (.string ak)∧w'.cell? ⟨A,1,none⟩=some (.int .i64 al)∧w'.cell? ⟨M,0,none⟩=some (.string ac)∧w'.cell? ⟨M,1,none⟩=some (.int .i64 ad)) (ds:=[]) #[false,false,false,false,false,false] (by kernel_rfl) rfl rfl ⟨(zab U.out 0).trans rfl,(zab U.out 1).trans rfl,(zab Y.out 0).trans rfl,(zab Y.out 1).trans rfl⟩ (fun hHeld=>?_)
 generalize cf.drew=aG at U Y X Z HB hHeld ⊢
 refine zbr (i:=2) (N:=some 17) (v:=?_) (a':=?_) #[false,false,true,false,false,false] rfl rfl (by kernel_rfl) (fun _ _ _ h=>h) (Or.inl ⟨by rfl,?_⟩) ?_ ?_
 rotate_left
 ·intro w'
  go_simp
  with_reducible rfl
 rotate_left
 ·simp only[Act.put,List.setIfInBounds_toArray,List.set_cons_zero,List.set_cons_succ,zar,zau]
  rfl
 refine zcg (i:=0) (N:=some 15) (v:=?_) (a':=?_) #[true,false,true,false,false,false] rfl rfl (by kernel_rfl) (fun _ _ _ h=>h) (Or.inl ⟨by rfl,?_⟩) hHeld ?_ ?_
 rotate_left
 ·rintro w' ⟨s0,s1,s2,s3⟩
  go_simp
  with_reducible rfl
 rotate_left
 ·simp only[Act.put,List.setIfInBounds_toArray,List.set_cons_zero,List.set_cons_succ,zar,zau]
  rfl
 refine zcg (i:=1) (N:=some 16) (v:=?_) (a':=?_) #[true,true,true,false,false,false] rfl rfl (by kernel_rfl) (fun _ _ _ h=>h) (Or.inl ⟨by rfl,?_⟩) hHeld ?_ ?_
 rotate_left
 ·rintro w' ⟨s0,s1,s2,s3⟩
  go_simp
  with_reducible rfl
 rotate_left
 ·simp only[Act.put,List.setIfInBounds_toArray,List.set_cons_zero,List.set_cons_succ,zar,zau]
  rfl
 refine one_ (i:=3) (N:=none) #[true,true,true,true,false,false] rfl rfl (by kernel_rfl) (by decide) (fun K hK=>?_)
 have cw:aG.cell? ⟨B,0,none⟩=some (.string (⟨#[]⟩:ByteArray)):=(zab X.out 0).trans rfl
 have cg:=zaC X.out 0
 have bq:=D.out
 have br:=E.out
 have bu:=ab.out
 have bv:=ag.out
 have bw:=ah.out
 have bA:=aa.out
 have cx:aG.cell? ⟨B,1,none⟩=some (.int .i64 0):=(zab X.out 1).trans rfl
 have ci:=zaC X.out 1
 have bB:=D.out
 have bC:=E.out
 have bD:=ab.out
 have bE:=ag.out
 have bG:=ah.out
 have bH:=aa.out
 refine zd6 (w1:=?_) (by rfl) rfl ?_ ?_
 rotate_left
 ·go_simp
  rfl
 refine hK.out _ _ ⟨((cell_far (p:=⟨B,_,none⟩) D.out _).trans (((cell_far (p:=⟨B,_,none⟩) D.out _).trans (hHeld.1)))),((cell_far (p:=⟨B,_,none⟩) D.out _).trans (((cell_far (p:=⟨B,_,none⟩) D.out _).trans (hHeld.2.1)))),((cell_far (p:=⟨B,_,none⟩) E.out _).trans (((cell_far (p:=⟨B,_,none⟩) E.out _).trans (hHeld.2.2.1)))),((cell_far (p:=⟨B,_,none⟩) E.out _).trans (((cell_far (p:=⟨B,_,none⟩) E.out _).trans (hHeld.2.2.2))))⟩ (fun hHeld=>?_)
 clear hK K
 refine one_ (i:=4) (N:=none) #[true,true,true,true,true,false] rfl rfl (by kernel_rfl) (by decide) (fun K hK=>?_)
 have cy:aG.cell? ⟨O,0,none⟩=some (.string (⟨#[]⟩:ByteArray)):=(zab Z.out 0).trans rfl
 have cj:=zaC Z.out 0
 have bI:=I.out
 have bJ:=J.out
 have bK:=aa.out
 have bL:=ai.out
 have bM:=aj.out
 have bO:=ab.out
 have cz:aG.cell? ⟨O,1,none⟩=some (.int .i64 0):=(zab Z.out 1).trans rfl
 have ck:=zaC Z.out 1
 have bP:=I.out
 have bQ:=J.out
 have bR:=aa.out
 have bS:=ai.out
 have bU:=aj.out
 have bV:=ab.out
 refine zd6 (w1:=?_) (by rfl) rfl ?_ ?_
 rotate_left
 ·go_simp
  rfl
 refine hK.out _ _ ⟨((cell_far (p:=⟨O,_,none⟩) I.out _).trans (((cell_far (p:=⟨O,_,none⟩) I.out _).trans (hHeld.1)))),((cell_far (p:=⟨O,_,none⟩) I.out _).trans (((cell_far (p:=⟨O,_,none⟩) I.out _).trans (hHeld.2.1)))),((cell_far (p:=⟨O,_,none⟩) J.out _).trans (((cell_far (p:=⟨O,_,none⟩) J.out _).trans (hHeld.2.2.1)))),((cell_far (p:=⟨O,_,none⟩) J.out _).trans (((cell_far (p:=⟨O,_,none⟩) J.out _).trans (hHeld.2.2.2))))⟩ (fun hHeld=>?_)
 clear hK K
 refine zbr (i:=5) (N:=some 6) (v:=?_) (a':=?_) #[true,true,true,true,true,true] rfl rfl (by kernel_rfl) (fun _ _ _ h=>h) (Or.inl ⟨by rfl,?_⟩) ?_ ?_
 rotate_left
 ·intro w'
  go_simp
  with_reducible rfl
 rotate_left
 ·simp only[Act.put,List.setIfInBounds_toArray,List.set_cons_zero,List.set_cons_succ,zar,zau]
  rfl
 refine zc5 (by kernel_rfl) ?_
 try go_wp2
 refine bodyPost_ret (zbB (rs:=[.cell 4 42,.cell 5 42,.tmp 6]) rfl (by simp) (.cell B 42 #[.string ak,.int .i64 al] (0,0) _ rfl bk Tryz.underlying42 rfl (by kernel_rfl) (.cell O 42 #[.string ac,.int .i64 ad] (0,0) _ rfl bk Tryz.underlying42 rfl (by kernel_rfl) (.tmp .nil)))) rfl ?_
 exact⟨ez,bz⟩
def zbR.f(B:ByteArray)(A:Int)(a1:Int):Option (Int):=if(wrap64 ((wrap64 (A-1))-a1))<0 then(some 0) else(if(wrap64 ((wrap64 (A-1))-a1))≥(B.size:Int) then(some 0) else(if 0≤(wrap64 ((wrap64 (A-1))-a1)) then(if(wrap64 ((wrap64 (A-1))-a1))<(B.size:Int) then(some (((bt B (wrap64 ((wrap64 (A-1))-a1)))-48)%256)) else(none)) else(none)))
def zbH.f(k:Nat)(B:ByteArray)(D:Int)(E:ByteArray)(I:Int):Option (Int×Int):=(zbn.f k B D E I).bind fun A=>(if A.2.2.2.2=0 then((zaO.f k A.1 A.2.1 A.2.2.1 A.2.2.2.1).bind fun J=>(some (J,0))) else(some (0,A.2.2.2.2)))
theorem zbH.calls(k:Nat)(A:ByteArray)(B:Int)(O:ByteArray)(U:Int)(r1:Int)(r2:Int)(w:World)(h:zbH.f k A B O U=some (r1,r2)):
  Calls Tryz.prog 82 #[.agg #[.string A,.int .i64 B],.agg #[.string O,.int .i64 U]] w fun e w'=>e= .returned (.tuple #[.int .i64 r1,.int .i64 r2])∧Below w.heap.size w w':=by
 have aN:=Tryz.underlying42
 have HB:=zaa.mk (Below.refl w.heap.size w)
 have H:((zbn.f k A B O U).bind fun D=>(if D.2.2.2.2=0 then((zaO.f k D.1 D.2.1 D.2.2.1 D.2.2.2.1).bind fun Z=>(some (Z,0))) else(some (0,D.2.2.2.2))))=some (r1,r2):=h
 clear h
 replace H:=bs H
 obtain⟨⟨aa,ab,ac,ad,ag⟩,A3,H⟩:=H
 dsimp only at H
 go_enter Tryz.func82,Tryz.ntmps82
 go_upto_if 15 with(first|((with_reducible refine zah (N:=2) rfl ?_);refine zag rfl (N:=2) rfl (cs:=#[.string A,.int .i64 B]) (t:=42) gz ?_;intro I hg w4 hbox hb;have aI:=gN bz hg;have E:=zaa.mk hbox;replace HB:=bN bz hb;clear hb hbox hg)|((with_reducible refine zah (N:=3) rfl ?_);refine zag rfl (N:=3) rfl (cs:=#[.string O,.int .i64 U]) (t:=42) gz ?_;intro ae hg w5 hbox hb;have aJ:=gN bz hg;have J:=lN (g:=I) (cs:=#[.string A,.int .i64 B]) hg bk;have K:=rN (g:=I) (cs:=#[.string A,.int .i64 B]) hg bk;replace E:=kN (g:=I) (cs:=#[.string A,.int .i64 B]) hb bk;have M:=zaa.mk hbox;replace HB:=bN bz hb;clear hb hbox hg;have aO:=J.out;have aP:=K.out;obtain⟨aA,aB,aC,aD⟩:=cz2 E;obtain⟨aE,aF,aG,aH⟩:=cz2 M)|((with_reducible refine zad (f:=127) rfl ?_);refine gB Tryz.func127 (zbn.calls k A B O U aa ab ac ad ag _ A3.out) ?_;intro w9 hb;replace E:=kN (g:=I) (cs:=#[.string A,.int .i64 B]) hb bk;replace M:=kN (g:=ae) (cs:=#[.string O,.int .i64 U]) hb bk;replace HB:=bN bz hb;clear hb;obtain⟨ah,ai,aj,ak⟩:=cz2 E;obtain⟨al,am,an,ao⟩:=cz2 M))
 (try simp only[Act.put,List.setIfInBounds_toArray,List.set_cons_zero,List.set_cons_succ])
 by_cases af:ag=0
 ·replace H:=hE H af
  obtain⟨X,Y⟩:=eT af
  clear af
  try first|rw[X]|rw[Y]
  replace H:=bs H
  obtain⟨Z,aK,H⟩:=H
  obtain⟨rfl,rfl⟩:=o2 H
  have aL:=J.out
  have aM:=K.out
  obtain⟨ap,ar,au,av⟩:=cz2 E
  obtain⟨aw,ax,ay,az⟩:=cz2 M
  go_wp2_with (first|((with_reducible refine zad (f:=128) rfl ?_);refine gB Tryz.func128 (zaO.calls k aa ab ac ad Z _ aK.out) ?_;intro aQ hb;replace E:=kN (g:=I) (cs:=#[.string aa,.int .i64 ab]) hb bk;replace M:=kN (g:=ae) (cs:=#[.string ac,.int .i64 ad]) hb bk;replace HB:=bN bz hb;clear hb))
  go_ret2
  exact⟨ez,bz⟩
 replace H:=hN H af
 obtain⟨X,Y⟩:=eF af
 try first|rw[X]|rw[Y]
 obtain⟨rfl,rfl⟩:=o2 H
 go_wp2
 go_ret2
 exact⟨ez,bz⟩
end
end Go.Proofs.YtecpgdfnamkfdaaGreatDoor.Fn
end
section
namespace Go.Proofs.YtecpgdfnamkfdaaGreatDoor.Pure
open Go.RowKit Go.Proofs.YtecpgdfnamkfdaaGreatDoorW.PrintWords Go.Proofs.YtecpgdfnamkfdaaGreatDoor.Fn
set_option linter.unusedVariables false
set_option linter.unusedSimpArgs false
def sv(l:List UInt8)(p E:Int):Nat:=val l*10^(p-l.length-E).toNat
def cmpN(a b:Nat):Int:=if a<b then-1 else if b<a then 1 else 0
theorem zff(a b k:Nat)(hk:0<k):cmpN (a*k) (b*k)=cmpN a b:=by
  unfold cmpN
  by_cases h1:a<b
  · rw[if_pos h1,if_pos (Nat.mul_lt_mul_of_pos_right h1 hk)]
  · rw[if_neg h1,if_neg (fun h=>h1 (Nat.lt_of_mul_lt_mul_right h))]
    by_cases h2:b<a
    · rw[if_pos h2,if_pos (Nat.mul_lt_mul_of_pos_right h2 hk)]
    · rw[if_neg h2,if_neg (fun h=>h2 (Nat.lt_of_mul_lt_mul_right h))]
theorem zhD(x a b:Nat):cmpN (x+a) (x+b)=cmpN a b:=by
  have e1:x+a<x+b↔a<b:=by omega
  have e2:x+b<x+a↔b<a:=by omega
  unfold cmpN
  simp only[e1,e2]
theorem zca{a b:Nat}(h:a<b):cmpN a b= -1:=if_pos h
theorem zcv{a b:Nat}(h:b<a):cmpN a b=1:=by unfold cmpN;rw[if_neg (by omega),if_pos h]
theorem zeH(a:Nat):cmpN a a=0:=by unfold cmpN;rw[if_neg (by omega),if_neg (by omega)]
theorem zc9(l:List UInt8)(p E:Int)(h:E≤p-l.length)(k:Nat):sv l p (E-k)=sv l p E*10^k:=by
  unfold sv
  have:(p-l.length-(E-k)).toNat=(p-l.length-E).toNat+k:=by omega
  rw[this,Nat.pow_add,Nat.mul_assoc]
theorem zhE{l:List UInt8}{p:Int}(h:InForm l p){E:Int}(hE:E≤p-l.length):decOf (sv l p E) E=(l,p):=by
  have h1:=zcS (val l) (p-l.length-E).toNat (p-l.length)
  have h2:(p-(l.length:Int))-((p-l.length-E).toNat:Int)=E:=by omega
  rw[h2,zdn h] at h1
  exact h1
def cmpD(a:List UInt8)(p:Int)(b:List UInt8)(q:Int):Int:=cmpN (sv a p (min (p-a.length) (q-b.length))) (sv b q (min (p-a.length) (q-b.length)))
theorem zis{a b:List UInt8}{p q E:Int}(h1:E≤p-a.length)(h2:E≤q-b.length):cmpD a p b q=cmpN (sv a p E) (sv b q E):=by
  unfold cmpD
  obtain⟨k,hk⟩: ∃k:Nat,E=min (p-(a.length:Int)) (q-b.length)-k:=⟨(min (p-(a.length:Int)) (q-b.length)-E).toNat,by omega⟩
  rw[hk,zc9 a p _ (by omega),zc9 b q _ (by omega),zff _ _ _ (Nat.pow_pos (by omega))]
theorem zdy{l:List UInt8}(h:AllD l){p E:Int}(hE:E≤p-l.length):sv l p E<10^(p-E).toNat:=by
  unfold sv
  have h1:=zcz h
  have h2:(p-E).toNat=l.length+(p-l.length-E).toNat:=by omega
  rw[h2,Nat.pow_add]
  exact Nat.mul_lt_mul_of_pos_right h1 (Nat.pow_pos (by omega))
theorem zjb{l:List UInt8}(h:AllD l)(h0:zci l)(hn:l≠[]):10^(l.length-1)≤val l:=by
  cases l with
  |nil=>exact absurd rfl hn
  |cons c t=>
    rw[zbo,List.length_cons]
    have h1:=h.cons.1
    have h2:=h0 c t rfl
    have:1*10^t.length≤dig c*10^t.length:=Nat.mul_le_mul_right _ (by unfold dig;omega)
    simp only[Nat.add_sub_cancel]
    omega
theorem zgl{l:List UInt8}(h:AllD l)(h0:zci l)(hn:l≠[]){p E:Int}(hE:E≤p-l.length):10^(p-1-E).toNat≤sv l p E:=by
  unfold sv
  have h1:=zjb h h0 hn
  have hl:0<l.length:=List.length_pos_iff.2 hn
  have h2:(p-1-E).toNat=(l.length-1)+(p-l.length-E).toNat:=by omega
  rw[h2,Nat.pow_add]
  exact Nat.mul_le_mul_right _ h1
theorem zep{l:List UInt8}(h:AllD l)(hr:rz l=l)(hn:l≠[]):val l≠0:=by
  rcases List.eq_nil_or_concat l with rfl|⟨t,c,rfl⟩
  · exact absurd rfl hn
  · rw[List.concat_eq_append] at*
    have hc:c.toNat≠48:=by
      intro e
      rw[zb6 e] at hr
      have:=zbZ t
      rw[hr] at this
      simp at this
      omega
    rw[zbF]
    have:=h.last
    unfold dig
    omega
theorem zdz{c:UInt8}{t:List UInt8}(h:rz (c::t)=c::t):rz t=t:=by
  rcases List.eq_nil_or_concat t with rfl|⟨u,d,rfl⟩
  · rfl
  · rw[List.concat_eq_append] at*
    by_cases e:d.toNat=48
    · rw[←List.cons_append,zb6 e] at h
      have:=zbZ (c::u)
      rw[h] at this
      simp at this
      omega
    · exact zcr e
theorem zfV: ∀(a b:List UInt8) (K:Nat),AllD a→AllD b→rz a=a→rz b=b→a.length≤K→b.length≤K→Lib.compareBytes a b=cmpN (val a*10^(K-a.length)) (val b*10^(K-b.length))
  |[],[],K,_,_,_,_,_,_=>by simp[Lib.compareBytes,za9,cmpN]
  |[],d::u,K,_,hb,_,hrb,_,_=>by
    rw[za9,Nat.zero_mul,zca (Nat.mul_pos (Nat.pos_of_ne_zero (zep hb hrb (by simp))) (Nat.pow_pos (by omega)))]
    rfl
  |c::t,[],K,ha,_,hra,_,_,_=>by
    rw[za9,Nat.zero_mul,zcv (Nat.mul_pos (Nat.pos_of_ne_zero (zep ha hra (by simp))) (Nat.pow_pos (by omega)))]
    rfl
  |c::t,d::u,K,ha,hb,hra,hrb,hka,hkb=>by
    simp only[List.length_cons] at hka hkb
    have hc:=ha.cons.1
    have hd:=hb.cons.1
    have h1:=zcz ha.cons.2
    have h2:=zcz hb.cons.2
    have ea:val (c::t)*10^(K-(t.length+1))=dig c*10^(K-1)+val t*10^(K-1-t.length):=by
      rw[zbo,Nat.add_mul,Nat.mul_assoc,←Nat.pow_add]
      have e1:t.length+(K-(t.length+1))=K-1:=by omega
      have e2:K-(t.length+1)=K-1-t.length:=by omega
      rw[e1,e2]
    have eb:val (d::u)*10^(K-(u.length+1))=dig d*10^(K-1)+val u*10^(K-1-u.length):=by
      rw[zbo,Nat.add_mul,Nat.mul_assoc,←Nat.pow_add]
      have e1:u.length+(K-(u.length+1))=K-1:=by omega
      have e2:K-(u.length+1)=K-1-u.length:=by omega
      rw[e1,e2]
    have la:val t*10^(K-1-t.length)<10^(K-1):=by
      have:10^t.length*10^(K-1-t.length)=10^(K-1):=by rw[←Nat.pow_add];congr 1;omega
      rw[←this]
      exact Nat.mul_lt_mul_of_pos_right h1 (Nat.pow_pos (by omega))
    have lb:val u*10^(K-1-u.length)<10^(K-1):=by
      have:10^u.length*10^(K-1-u.length)=10^(K-1):=by rw[←Nat.pow_add];congr 1;omega
      rw[←this]
      exact Nat.mul_lt_mul_of_pos_right h2 (Nat.pow_pos (by omega))
    have less: ∀x y r s M:Nat,x<y→r<M→x*M+r<y*M+s:=by
      intro x y r s M hxy hr
      have:(x+1)*M≤y*M:=Nat.mul_le_mul_right _ hxy
      rw[Nat.add_mul] at this
      omega
    rw[List.length_cons,List.length_cons,ea,eb]
    unfold Lib.compareBytes
    have hlt: ∀x y:UInt8,(48≤x.toNat∧x.toNat≤57)→(48≤y.toNat∧y.toNat≤57)→(x<y↔dig x<dig y):=by
      intro x y hx hy
      rw[UInt8.lt_iff_toNat_lt]
      unfold dig
      omega
    by_cases e1:c<d
    · rw[if_pos e1,zca (less _ _ _ _ _ ((hlt c d hc hd).1 e1) la)]
    · rw[if_neg e1]
      by_cases e2:d<c
      · rw[if_pos e2,zcv (less _ _ _ _ _ ((hlt d c hd hc).1 e2) lb)]
      · rw[if_neg e2]
        have e3:dig c=dig d:=by
          have h3:=mt (hlt c d hc hd).2 e1
          have h4:=mt (hlt d c hd hc).2 e2
          omega
        rw[zfV t u (K-1) ha.cons.2 hb.cons.2 (zdz hra) (zdz hrb) (by omega) (by omega),e3,zhD]
theorem cmp_eq{a b:List UInt8}{p q:Int}(ha:InForm a p)(hb:InForm b q):Ev (fun k=>zaO.f k (S a) p (S b) q) (cmpD a p b q):=by
  obtain⟨A,D,M,U⟩:=ha
  obtain⟨B,I,O,X⟩:=hb
  have J:min (p-(a.length:Int)) (q-b.length)≤p-a.length:=by omega
  have K:min (p-(a.length:Int)) (q-b.length)≤q-b.length:=by omega
  have empt: ∀(z:Int),(a=[]∨b=[])→Lib.compareBytes a b=cmpD a p b q:=by
    intro _ h
    unfold cmpD
    by_cases h1:a=[]
    · by_cases h2:b=[]
      · subst h1;subst h2;rw[cmpN];simp[sv,za9,Lib.compareBytes]
      · subst h1
        rw[zca]
        · cases b with
          |nil=>exact absurd rfl h2
          |cons d u=>rfl
        · have h3:0<sv b q (min (p-(([]:List UInt8).length:Int)) (q-b.length)):=Nat.mul_pos (Nat.pos_of_ne_zero (zcu B I h2)) (Nat.pow_pos (by omega))
          simpa [sv,za9] using h3
    · have h2:b=[]:=by rcases h with h|h;exact absurd h h1;exact h
      subst h2
      rw[zcv]
      · cases a with
        |nil=>exact absurd rfl h1
        |cons d u=>rfl
      · have h3:0<sv a p (min (p-(a.length:Int)) (q-(([]:List UInt8).length:Int))):=Nat.mul_pos (Nat.pos_of_ne_zero (zcu A D h1)) (Nat.pow_pos (by omega))
        simpa [sv,za9] using h3
  have hcmp:strings_Compare.f (S a) (S b)=some (Lib.compareBytes a b):=rfl
  unfold zaO.f
  rw[zbd,L_S,zbd,L_S]
  by_cases h1:a=[]
  · refine Ev.congr (f:=fun k=>zaO.j0 k true (S a) p (S b) q) (fun k=>by rw[if_pos h1]) (Ev.step (f:=fun _=>some (cmpD a p b q)) (fun k=>?_) (Ev.now _))
    simp only[zaO.j0]
    rw[if_pos trivial,hcmp,Option.bind_some,empt 0 (.inl h1)]
  · by_cases h2:b=[]
    · refine Ev.congr (f:=fun k=>zaO.j0 k true (S a) p (S b) q) (fun k=>by rw[if_neg h1,h2];rfl) (Ev.step (f:=fun _=>some (cmpD a p b q)) (fun k=>?_) (Ev.now _))
      simp only[zaO.j0]
      rw[if_pos trivial,hcmp,Option.bind_some,empt 0 (.inr h2)]
    · refine Ev.congr (f:=fun k=>zaO.j0 k false (S a) p (S b) q) (fun k=>by rw[if_neg h1];congr 1;simpa using h2) (Ev.step (f:=fun _=>some (cmpD a p b q)) (fun k=>?_) (Ev.now _))
      simp only[zaO.j0]
      rw[if_neg (by simp)]
      have hal:0<a.length:=List.length_pos_iff.2 h1
      have hbl:0<b.length:=List.length_pos_iff.2 h2
      have la:=zdy A J
      have lb:=zdy B K
      have ga:=zgl A D h1 J
      have gb:=zgl B I h2 K
      generalize hE:min (p-(a.length:Int)) (q-b.length)=E at*
      by_cases h3:p<q
      · rw[if_pos h3]
        unfold cmpD
        rw[hE,zca]
        have:10^(p-E).toNat≤10^(q-1-E).toNat:=Nat.pow_le_pow_right (by omega) (by omega)
        omega
      · rw[if_neg h3]
        by_cases h4:p>q
        · rw[if_pos h4]
          unfold cmpD
          rw[hE,zcv]
          have:10^(q-E).toNat≤10^(p-1-E).toNat:=Nat.pow_le_pow_right (by omega) (by omega)
          omega
        · rw[if_neg h4,hcmp,Option.bind_some]
          have e:p=q:=by omega
          subst e
          rw[zfV a b (p-E).toNat A B M O (by omega) (by omega)]
          unfold cmpD sv
          rw[hE]
          have e1:(p-E).toNat-a.length=(p-(a.length:Int)-E).toNat:=by omega
          have e2:(p-E).toNat-b.length=(p-(b.length:Int)-E).toNat:=by omega
          rw[e1,e2]
theorem zbL(s:ByteArray)(p:Int):(∃e:Int,normS s p=(⟨#[]⟩,0,e)∧e≠0∧(e=2∨e=4))∨ ∃l q,normS s p=(S l,q,0)∧InForm l q∧l.length≤2000∧ -7000≤q∧q≤5000∧AllD (L s)∧(l,q)=decOf (val (L s)) (p-(L s).length):=by
  unfold normS
  by_cases h:s.size>2000
  · rw[if_pos h];exact .inl ⟨2,rfl,by omega,.inl rfl⟩
  · rw[if_neg h]
    unfold normTail
    by_cases h1:(L s).all isD=true
    · rw[if_pos h1]
      by_cases h2:p< -5000
      · rw[if_pos h2];exact .inl ⟨2,rfl,by omega,.inl rfl⟩
      · rw[if_neg h2]
        by_cases h3:p>5000
        · rw[if_pos h3];exact .inl ⟨2,rfl,by omega,.inl rfl⟩
        · rw[if_neg h3]
          have hall:AllD (L s):=fun c hc=>(zdx c).1 (List.all_eq_true.1 h1 c hc)
          have hf:=zbU hall p
          have hin:=zbc (val (L s)) (p-(L s).length)
          rw[←hf] at hin
          have hl:=zeE (L s)
          have A:=zbZ (dz (L s))
          rw[←zbO] at hl
          refine .inr ⟨(formL (L s) p).1,(formL (L s) p).2,rfl,hin,?_,?_,?_,hall,by rw[←hf]⟩
          · unfold formL;split
            · simp
            · show(rz (dz (L s))).length≤2000
              omega
          · unfold formL;split
            · show(-7000:Int)≤0
              omega
            · show(-7000:Int)≤p-_
              rw[←zbO]
              omega
          · unfold formL;split
            · show(0:Int)≤5000
              omega
            · show p-_≤(5000:Int)
              rw[←zbO]
              omega
    · rw[if_neg h1];exact .inl ⟨4,rfl,by omega,.inr rfl⟩
def cmpS(s:ByteArray)(p:Int)(t:ByteArray)(q:Int):Int×Int:=
  if(normS s p).2.2=0 then(if(normS t q).2.2=0 then(cmpD (L (normS s p).1) (normS s p).2.1 (L (normS t q).1) (normS t q).2.1,0) else(0,(normS t q).2.2)) else(0,(normS s p).2.2)
theorem zgQ(s:ByteArray)(p:Int)(t:ByteArray)(q:Int):Ev (fun k=>zbn.f k s p t q) (if(normS s p).2.2=0 then((normS s p).1,(normS s p).2.1,(normS t q).1,(normS t q).2.1,(normS t q).2.2) else((normS s p).1,(normS s p).2.1,t,q,(normS s p).2.2)):=by
  unfold zbn.f
  refine Ev.bind (zcX s p) ?_
  by_cases h:(normS s p).2.2=0
  · rw[if_pos h]
    exact Ev.congr (fun k=>by rw[if_pos h]) (Ev.bind (f:=fun _ bt=>some ((normS s p).1,(normS s p).2.1,bt.1,bt.2.1,bt.2.2)) (zcX t q) (Ev.now _))
  · rw[if_neg h]
    exact Ev.congr (fun k=>by rw[if_neg h]) (Ev.now _)
theorem zit(s:ByteArray)(p:Int)(t:ByteArray)(q:Int):Ev (fun k=>zbH.f k s p t q) (cmpS s p t q):=by
  unfold zbH.f cmpS
  refine Ev.bind (zgQ s p t q) ?_
  rcases zbL s p with⟨e,h1,h2,_⟩|⟨l,u,h1,A,_⟩
  · rw[h1,if_neg h2,if_neg h2]
    exact Ev.congr (fun k=>by rw[if_neg h2]) (Ev.now _)
  · rw[h1,if_pos rfl,if_pos rfl]
    rcases zbL t q with⟨e,h3,h4,_⟩|⟨m,v,h3,B,_⟩
    · rw[h3,if_neg h4]
      exact Ev.congr (fun k=>by rw[if_neg h4]) (Ev.now _)
    · rw[h3,if_pos rfl]
      refine Ev.congr (fun k=>by rw[if_pos rfl]) (Ev.bind (f:=fun _ x=>some (x,(0:Int))) (cmp_eq A B) (Ev.now _))
theorem zeI{l:List UInt8}(h:AllD l)(i:Nat)(hi:i<l.length):val l / 10^(l.length-1-i)%10=dig l[i]:=by
  have e:l=l.take (i+1)++l.drop (i+1):=(List.take_append_drop _ _).symm
  have e2:l.take (i+1)=l.take i++[l[i]]:=List.take_succ_eq_append_getElem hi
  have hv:val l=(10*val (l.take i)+dig l[i])*10^(l.length-1-i)+val (l.drop (i+1)):=by
    have hl:(l.drop (i+1)).length=l.length-1-i:=by rw[List.length_drop];omega
    rw[←hl,←zbF,←e2,←val_append,←e]
  have hlt:val (l.drop (i+1))<10^(l.length-1-i):=by
    have:=zcz (h.drop (i+1))
    rw[List.length_drop] at this
    have e3:l.length-(i+1)=l.length-1-i:=by omega
    rw[e3] at this
    exact this
  have hd:dig l[i]<10:=by have:=h l[i] (List.getElem_mem hi);unfold dig;omega
  rw[hv,Nat.mul_comm,Nat.mul_add_div (Nat.pow_pos (by omega)),Nat.div_eq_of_lt hlt]
  omega
theorem digit_eq{l:List UInt8}{p E x:Int}(h:AllD l)(hE:E≤p-l.length)(hx:E≤x)(hb:l.length≤100000∧ -100000≤p∧p≤100000∧ -100000≤x∧x≤100000):
    zbR.f (S l) p x=some ((sv l p E / 10^(x-E).toNat%10:Nat):Int):=by
  unfold zbR.f
  have hw:wrap64 (wrap64 (p-1)-x)=p-1-x:=by rw[zaN (x:=p-1) (by omega) (by omega),zaN (by omega) (by omega)]
  rw[hw,zaw]
  by_cases h1:p-1-x<0
  · rw[if_pos h1]
    have hlt:=zdy h hE
    have:10^(p-E).toNat≤10^(x-E).toNat:=Nat.pow_le_pow_right (by omega) (by omega)
    rw[Nat.div_eq_of_lt (by omega)]
    rfl
  · rw[if_neg h1]
    by_cases h2:p-1-x≥(l.length:Int)
    · rw[if_pos h2]
      unfold sv
      have e:(p-l.length-E).toNat=(p-l.length-x).toNat+(x-E).toNat:=by omega
      rw[e,Nat.pow_add,←Nat.mul_assoc,Nat.mul_div_cancel _ (Nat.pow_pos (by omega))]
      obtain⟨j,hj⟩: ∃j,(p-l.length-x).toNat=j+1:=⟨(p-l.length-x).toNat-1,by omega⟩
      rw[hj,Nat.pow_succ,←Nat.mul_assoc,Nat.mul_mod_left]
      rfl
    · obtain⟨i,hi⟩: ∃i:Nat,p-1-x=(i:Int):=⟨(p-1-x).toNat,by omega⟩
      have hil:i<l.length:=by omega
      rw[if_neg h2,hi,if_pos (by omega),if_pos (by omega),bt_L (S l) i (by rw[zaw];exact hil)]
      simp only[L_S]
      have hd:=h l[i] (List.getElem_mem hil)
      have hv:=zeI h i hil
      have e:sv l p E / 10^(x-E).toNat=val l / 10^(l.length-1-i):=by
        unfold sv
        have e1:(x-E).toNat=(l.length-1-i)+(p-l.length-E).toNat:=by omega
        rw[e1,Nat.pow_add,Nat.mul_comm (10^(l.length-1-i)),←Nat.div_div_eq_div_mul,Nat.mul_div_cancel _ (Nat.pow_pos (by omega))]
      rw[e,hv]
      unfold dig at*
      congr 1
      omega
theorem zeZ{b:List UInt8}{q:Int}(hb:InForm b q)(hn:b≠[])(p:Int):cmpD [] p b q= -1:=by
  unfold cmpD
  have h3:0<sv b q (min (p-(([]:List UInt8).length:Int)) (q-b.length)):=Nat.mul_pos (Nat.pos_of_ne_zero (zcu hb.1 hb.2.1 hn)) (Nat.pow_pos (by omega))
  rw[zca]
  simpa [sv,za9] using h3
theorem zeq{a:List UInt8}{p:Int}(ha:InForm a p)(hn:a≠[])(q:Int):cmpD a p [] q=1:=by
  unfold cmpD
  have h3:0<sv a p (min (p-(a.length:Int)) (q-(([]:List UInt8).length:Int))):=Nat.mul_pos (Nat.pos_of_ne_zero (zcu ha.1 ha.2.1 hn)) (Nat.pow_pos (by omega))
  rw[zcv]
  simpa [sv,za9] using h3
end Go.Proofs.YtecpgdfnamkfdaaGreatDoor.Pure
end
section
namespace Go.Proofs.YtecpgdfnamkfdaaGreatDoor.Fn
open Go.RowKit Go.Proofs.YtecpgdfnamkfdaaGreatDoorW.PrintWords Go.Proofs.YtecpgdfnamkfdaaGreatDoorW.PrintLast Go.Proofs.YtecpgdfnamkfdaaGreatDoorW.PrintMore
set_option linter.unusedVariables false
set_option linter.unusedSimpArgs false
set_option maxHeartbeats 8000000
set_option maxRecDepth 100000
section
attribute [local go_sem] fnW_0 fnW_1 fnW_2 fnW_3 fnW_4 fnW_5 fnW_guard fnW_eql zaD zaE zaI zaJ
mutual
def zaz.l0:Nat→List Int→Int→Int→Int→Int→Option (List Int)
 |0,_,_,_,_,_=>none
 |k+1,x0,x1,x5,x9,A=>if A<x9 then(if 0≤A then(if A<(x0.length:Int) then(zaz.l0 k (x0.set (A:Int).toNat (Int.tmod (IntKind.u64.wrap ((IntKind.u64.wrap ((rd x0 A)*x1))+x5)) 1000000000)) x1 (IntKind.u64.wrap (Int.tdiv (IntKind.u64.wrap ((IntKind.u64.wrap ((rd x0 A)*x1))+x5)) 1000000000)) x9 (wrap64 (A+1))) else(none)) else(none)) else(zaz.l1 k x0 x5)
def zaz.l1:Nat→List Int→Int→Option (List Int)
 |0,_,_=>none
 |k+1,x0,x5=>if x5>0 then(if x0.length<17592186044416 then(zaz.l1 k (x0++[Int.tmod x5 1000000000]) (IntKind.u64.wrap (Int.tdiv x5 1000000000))) else(none)) else(some x0)
end
def zaz.f(k:Nat)(l0:List Int)(a1:Int):Option (List Int):=zaz.l0 k l0 a1 0 (l0.length:Int) 0
theorem zaz.calls(k:Nat)(J:Nat→Prop)(U:Value)(l0:List Int)(a1:Int)(r:List Int)(w0 w:World)(hB:Below w0.heap.size w0 w)(aI:Kd.R (Kd.int .u64) 22 w w0.heap.size J U l0)(h:zaz.f k l0 a1=some r):
  Calls Tryz.prog 47 #[U,.int .u64 a1] w fun e w'=> ∃av:Value,e= .returned (av)∧Kd.R (Kd.int .u64) 22 w' w0.heap.size (fun k_=>(J k_∨w.heap.size≤k_)) av r∧Below w0.heap.size w0 w'∧Kept w w' (fun k_=>J k_):=by
 have aw:=zaa.mk (show Kd.R (Kd.int .u64) 22 w w0.heap.size (fun k_=>(J k_∨w.heap.size≤k_)) U l0 from Kd.R_mono aI (fun k_ hk=>(.inl hk)))
 have HK:=zaa.mk (Kept.refl w (fun k_=>J k_))
 have aY:=zaa.mk hB.size
 have HB:=zaa.mk hB
 clear hB
 have H:(zaz.l0 k l0 a1 0 (l0.length:Int) 0)=some r:=h
 clear h
 have H':=zaa.mk H
 clear H
 obtain⟨aJ,ax,aK⟩:=Kd.R_slice aw.out
 subst aK
 go_enter Tryz.func47,Tryz.ntmps47
 go_wp2
 go_loopg [5,10] k (fun kq v5 aM w'=> ∃(D:List Int) (K:Int) (A:Int),v5= .int .u64 K∧aM= .int .i64 A∧zaa (zaz.l0 kq D a1 K (l0.length:Int) A=some r)∧zaa (kq≤k)∧zaa (Kd.R (Kd.int .u64) 22 w' w0.heap.size (fun k_=>(J k_∨w.heap.size≤k_)) (.slice aJ l0.length ax) D)∧zaa (Kept w w' (fun k_=>J k_))∧zaa (Below w0.heap.size w0 w'))
 case atStart=>exact⟨(l0),(0),(0),rz,rz,H',⟨Nat.le_refl _⟩,⟨by(with_reducible repeat(first|apply Kd.R_alloc|apply Kd.R_drewN|apply Kd.R_drew));exact aw.out⟩,⟨by repeat(first|(with_reducible first|exact HK.out|apply Kept.alloc|apply Kept.drewN|apply Kept.drew)|exact HK.out)⟩,⟨bz⟩⟩
 case round=>
  clear H'
  obtain⟨D,K,A,rfl,rfl,HA,ak,B,HK,HB⟩:=hrel
  have E:=(Kd.R_reads' B.out).1
  rw[E] at B
  (try simp only[E])
  cases gk with
  |zero=>exact absurd HA.out (by simp[zaz.l0])
  |succ k1=>
   have H:=HA.out
   clear HA
   simp only[zaz.l0] at H
   by_cases c4:A<(l0.length:Int)
   ·replace H:=hE H c4
    have Z:=decide_eq_true c4
    (try(have ab:=Z;(first|rw[E] at ab);skip))
    clear c4
    obtain⟨c5,H⟩:=hG H
    have aW:=decide_eq_true c5
    clear c5
    obtain⟨c6,H⟩:=hG H
    have ay:=decide_eq_true c6
    (try(have az:=ay;(first|rw[E] at az);skip))
    clear c6
    obtain⟨ac,M⟩: ∃y_:List Int,y_=(D.set (A:Int).toNat (Int.tmod (IntKind.u64.wrap ((IntKind.u64.wrap ((rd D A)*a1))+K)) 1000000000)):=⟨_,rfl⟩
    replace H:(zaz.l0 k1 ac a1 (IntKind.u64.wrap (Int.tdiv (IntKind.u64.wrap ((IntKind.u64.wrap ((rd D A)*a1))+K)) 1000000000)) (l0.length:Int) (wrap64 (A+1)))=some r:=by first|(rw[M];with_reducible exact H)|(have Y:=(Option.bind_some _ _).symm.trans H;rw[M];with_reducible exact Y)|(have Y:=(Option.bind_some _ _).symm.trans H;with_reducible exact Y)|with_reducible exact H|(rw[M];exact H)|exact H
    have am:=zaa.mk M
    clear M
    have H':=zaa.mk H
    clear H
    have ad:0≤(A:Int):=od
    have ae:A<(D.length:Int):=od
    obtain⟨aN,aA,af⟩:=Kd.at_int (Kd.R_reads' B.out).2.2 A ad ae
    cases aA
    replace ad:=eq_true ad
    replace ae:=eq_true ae
    have p7:0≤(A:Int):=od
    have q7:(A:Int)<((D.length:Int):Int):=od
    obtain⟨ag,aZ,aC,aD,aQ,a2,aE⟩:=Kd.R_form B.out (by omega)
    (first|cases aC|(injection aC with ea_ en_ ec_;(first|subst ea_|(injection ea_ with ea_;subst ea_));subst ec_;clear en_))
    have aR:=zaa.mk aD
    have a3:=zaa.mk aE
    clear aD aQ aE
    have aT:=zaa.mk (show(J ag∨w.heap.size≤ag) from(B.out.1 _ rfl))
    (first|simp only[add_plain] at af|skip)
    obtain⟨aU,aV⟩:=Kd.R_celln 0 B.out (A:Int) p7 q7
    replace p7:=eq_true p7
    replace q7:=eq_true q7
    have an:=Kd.R_putg B.out (A:Int) (Int.tmod (IntKind.u64.wrap ((IntKind.u64.wrap ((rd D A)*a1))+K)) 1000000000)
    go_wp2_with (first|((with_reducible refine zb2 (t:=22) (p:=26) rfl ?_);refine zbS (t:=22) (p:=26) (v:=?vo_w9) (w1:=(wr.setCell ⟨ag,(A:Int).toNat,none⟩ (.int .u64 (Int.tmod (IntKind.u64.wrap ((IntKind.u64.wrap ((rd D A)*a1))+K)) 1000000000)))) ?hg ?ho ?hn ?hr ?_;(case ho=>rfl);(case hg=>rfl);(case hn=>rfl);(case hr=>first|(go_simp;done)|(go_simp;rfl));intro w9 hw;have hg:wr.grownBy w9 (some ag):=(by rw[hw];exact an.2);have hp_:Kd.R (Kd.int .u64) 22 w9 w0.heap.size (fun k_=>(J k_∨w.heap.size≤k_)) (.slice (some ⟨ag,0,none⟩) D.length ax) ac:=(by rw[hw,am.out];exact an.1);clear an;have ah:=zaa.mk (hp_);have ai:=zaa.mk ((by rw[hw];exact zbt (HB.out) aR.out:Below w0.heap.size w0 w9));have aj:=zaa.mk (Kept.of_grown (S:=(fun k_=>J k_)) hg (by repeat(first|(with_reducible first|exact HK.out|apply Kept.alloc|apply Kept.drewN|apply Kept.drew)|exact HK.out)) (fun k_ e_=>(B.out.1 k_ e_)));clear B;clear HB;clear HK;have B:=ah;have HB:=ai;have HK:=aj;clear ah ai aj;clear hg hw hp_))
    (try simp only[←E])
    go_roundg k1
    case measure=>have:=ak.out;omega
    case rel=>exact⟨(ac),(IntKind.u64.wrap (Int.tdiv (IntKind.u64.wrap ((IntKind.u64.wrap ((rd D A)*a1))+K)) 1000000000)),(wrap64 (A+1)),rz,rz,H',⟨by have:=ak.out;omega⟩,⟨by(try simp only[E]);(with_reducible repeat(first|apply Kd.R_alloc|apply Kd.R_drewN|apply Kd.R_drew));exact B.out⟩,⟨by repeat(first|(with_reducible first|exact HK.out|apply Kept.alloc|apply Kept.drewN|apply Kept.drew)|exact HK.out)⟩,⟨bz⟩⟩
   replace H:=hN H c4
   have Z:=decide_eq_false c4
   (try(have ab:=Z;(first|rw[E] at ab);skip))
   clear c4
   have H':=zaa.mk H
   clear H
   go_wp2
   go_loopg [0,5] k1 (fun kq v0 v5 w'=> ∃(X:List Int) (I:Int),v5= .int .u64 I∧zaa (zaz.l1 kq X I=some r)∧zaa (kq≤k1)∧zaa (Kd.R (Kd.int .u64) 22 w' w0.heap.size (fun k_=>(J k_∨w.heap.size≤k_)) v0 X)∧zaa (Kept w w' (fun k_=>J k_))∧zaa (Below w0.heap.size w0 w'))
   case atStart=>exact⟨(D),(K),rz,H',⟨Nat.le_refl _⟩,⟨by(try simp only[E]);(with_reducible repeat(first|apply Kd.R_alloc|apply Kd.R_drewN|apply Kd.R_drew));exact B.out⟩,⟨by repeat(first|(with_reducible first|exact HK.out|apply Kept.alloc|apply Kept.drewN|apply Kept.drew)|exact HK.out)⟩,⟨bz⟩⟩
   case round=>
    clear H'
    try clear c4
    try clear Z
    obtain⟨X,I,rfl,HA,aG,B,HK,HB⟩:=hrel
    cases gk with
    |zero=>exact absurd HA.out (by simp[zaz.l1])
    |succ k2=>
     have H:=HA.out
     clear HA
     simp only[zaz.l1] at H
     by_cases aa:I>0
     ·replace H:=hE H aa
      have ao:decide (0<I)=true:=decide_eq_true aa
      clear aa
      obtain⟨aH,H⟩:=hG H
      have ap:=zaa.mk aH
      clear aH
      obtain⟨al,O⟩: ∃y_:List Int,y_=(X++[Int.tmod I 1000000000]):=⟨_,rfl⟩
      replace H:(zaz.l1 k2 al (IntKind.u64.wrap (Int.tdiv I 1000000000)))=some r:=by first|(rw[O];with_reducible exact H)|(have Y:=(Option.bind_some _ _).symm.trans H;rw[O];with_reducible exact Y)|(have Y:=(Option.bind_some _ _).symm.trans H;with_reducible exact Y)|with_reducible exact H|(rw[O];exact H)|exact H
      have ar:=zaa.mk O
      clear O
      have H':=zaa.mk H
      clear H
      go_wp2_with (first|((with_reducible refine zdl (b:=.append) (xs:=#[.tmp 30,.tmp 33]) rfl ?_);at_builtin;refine Kd.R_append (Kd.int .u64) (w0:=w0) w0.heap.size rfl (.tmp 30) (.tmp 33) 77 22 (.int .u64 0) 8 rfl Tryz.underlying77 zgM rfl (by decide) (by omega) u0 X (Int.tmod I 1000000000) [.int .u64 (Int.tmod I 1000000000)] (fun k_=>(J k_∨w.heap.size≤k_)) (fun _=>False) rfl rfl ?aP (fun _ hk=>hk.elim) ?aF ?aO ?aB ?aS ?aL ?_;(case aP=>exact rfl);(case aB=>exact bz);(case aF=>exact(fun k_ hk=>(.inr (Nat.le_trans (by first|exact HK.out.1|exact(show Kept w _ (fun k_=>J k_) from by repeat(first|(with_reducible first|exact HK.out|apply Kept.alloc|apply Kept.drewN|apply Kept.drew)|exact HK.out)).1) hk))));(case aO=>exact(by(with_reducible repeat(first|apply Kd.R_alloc|apply Kd.R_drewN|apply Kd.R_drew));exact B.out));(case aS=>exact(zaG bz));(case aL=>have:=ap.out;omega);intro aX a4 ho hb hg hat;rw[←ar.out] at ho;have ah:=zaa.mk (hb);have ai:=zaa.mk (Kept.of_grown (S:=(fun k_=>J k_)) hg (by repeat(first|(with_reducible first|exact HK.out|apply Kept.alloc|apply Kept.drewN|apply Kept.drew)|exact HK.out)) (fun k_ e_=>(B.out.1 k_ e_)));have aj:=zaa.mk (ho);clear HB;clear HK;clear B;have HB:=ah;have HK:=ai;have au:=aj;clear ah ai aj;clear ho hb hg hat))
      go_roundg k2
      case measure=>have:=ak.out;have:=aG.out;omega
      case rel=>exact⟨(al),(IntKind.u64.wrap (Int.tdiv I 1000000000)),rz,H',⟨by have:=ak.out;have:=aG.out;omega⟩,⟨by(try simp only[E]);(with_reducible repeat(first|apply Kd.R_alloc|apply Kd.R_drewN|apply Kd.R_drew));exact au.out⟩,⟨by repeat(first|(with_reducible first|exact HK.out|apply Kept.alloc|apply Kept.drewN|apply Kept.drew)|exact HK.out)⟩,⟨bz⟩⟩
     replace H:=hN H aa
     have ao:decide (0<I)=false:=decide_eq_false aa
     clear aa
     obtain rfl:=Option.some.inj H
     go_wp2
     go_ret
     exact⟨_,by first|rfl|(simp[zbW,zbX]<;>rfl)|(simp[*,zbW,zbX]<;>rfl),by(with_reducible repeat(first|apply Kd.R_alloc|apply Kd.R_drewN|apply Kd.R_drew));exact B.out,bz,by repeat(first|(with_reducible first|exact HK.out|apply Kept.alloc|apply Kept.drewN|apply Kept.drew)|exact HK.out)⟩
def zat.l0:Nat→List Int→Int→Option (List Int)
 |0,_,_=>none
 |k+1,x0,x3=>if(x0.length:Int)>0 then(if 0≤(wrap64 ((x0.length:Int)-1)) then(if(wrap64 ((x0.length:Int)-1))<(x0.length:Int) then(if(rd x0 (wrap64 ((x0.length:Int)-1)))=x3 then(if(wrap64 ((x0.length:Int)-1))≤(x0.length:Int) then(zat.l0 k (x0.take ((wrap64 ((x0.length:Int)-1)):Int).toNat) x3) else(none)) else(some x0)) else(none)) else(none)) else(some x0)
def zat.f(k:Nat)(l0:List Int):Option (List Int):=zat.l0 k l0 0
theorem zat.calls(k:Nat)(ad:Nat→Prop)(A0:Option Addr)(c0:Nat)(l0:List Int)(r:List Int)(w:World)(aw:Kd.V (Kd.int .u64) 22 w w.heap.size (fun k_=>ad k_) (.slice A0 l0.length c0) l0)(h:zat.f k l0=some r):
  Calls Tryz.prog 78 #[.slice A0 l0.length c0] w fun e w'=> ∃al:Value,e= .returned (al)∧Kd.V (Kd.int .u64) 22 w' w.heap.size (fun k_=>(ad k_∨w.heap.size≤k_)) al r∧Below w.heap.size w w':=by
 have ax:=zaa.mk (show Kd.V (Kd.int .u64) 22 w w.heap.size (fun k_=>(ad k_∨w.heap.size≤k_)) (.slice A0 l0.length c0) l0 from Kd.V_mono aw (fun k_ hk=>.inl hk))
 have HB:=zaa.mk (Below.refl w.heap.size w)
 have H:(zat.l0 k l0 0)=some r:=h
 clear h
 have H':=zaa.mk H
 clear H
 go_enter Tryz.func78,Tryz.ntmps78
 go_wp2
 go_loopg [0] k (fun kq v0 w'=> ∃(A:List Int),zaa (zat.l0 kq A 0=some r)∧zaa (kq≤k)∧zaa (Kd.V (Kd.int .u64) 22 w' w.heap.size (fun k_=>(ad k_∨w.heap.size≤k_)) v0 A)∧zaa (Below w.heap.size w w'))
 case atStart=>exact⟨(l0),H',⟨Nat.le_refl _⟩,⟨by(with_reducible repeat(first|apply Kd.V_alloc|apply Kd.V_drewN|apply Kd.V_drew));exact ax.out⟩,⟨bz⟩⟩
 case round=>
  clear H'
  obtain⟨A,HA,am,B,HB⟩:=hrel
  cases gk with
  |zero=>exact absurd HA.out (by simp[zat.l0])
  |succ k1=>
   have H:=HA.out
   clear HA
   simp only[zat.l0] at H
   by_cases c2:(A.length:Int)>0
   case neg=>
    replace H:=hN H c2
    have an:decide (0<(A.length:Int))=false:=decide_eq_false c2
    have ao:decide (0<A.length)=false:=decide_eq_false (by omega)
    clear c2
    obtain rfl:=Option.some.inj H
    obtain⟨aK,aL,av⟩:=Kd.V_slice B.out
    subst av
    go_wp2
    go_ret
    exact⟨_,by first|rfl|(simp[zbW,zbX]<;>rfl)|(simp[*,zbW,zbX]<;>rfl),by(with_reducible repeat(first|apply Kd.V_alloc|apply Kd.V_drewN|apply Kd.V_drew));exact B.out,bz⟩
   replace H:=hE H c2
   have an:decide (0<(A.length:Int))=true:=decide_eq_true c2
   have ao:decide (0<A.length)=true:=decide_eq_true (by omega)
   clear c2
   obtain⟨D,U⟩:=ex (wrap64 ((A.length:Int)-1))
   (first|rw[U] at H|simp only[U] at H)
   have ay:(IntKind.i64.wrap ((A.length:Int)-1))=D:=(zar _).trans U
   obtain⟨c4,H⟩:=hG H
   have aB:=decide_eq_true c4
   clear c4
   obtain⟨c5,H⟩:=hG H
   have aC:=decide_eq_true c5
   clear c5
   by_cases c6:(rd A (D))=0
   case neg=>
    replace H:=hN H c6
    obtain⟨ap,ar⟩:=eF c6
    obtain rfl:=Option.some.inj H
    obtain⟨aI,aJ,au⟩:=Kd.V_slice B.out
    subst au
    have I:0≤((D):Int):=od
    have J:(D)<(A.length:Int):=od
    obtain⟨M,Y,Z⟩:=Kd.at_int (Kd.V_reads' B.out).2.2 (D) I J
    cases Y
    replace I:=eq_true I
    replace J:=eq_true J
    go_wp2
    go_ret
    exact⟨_,by first|exact ez|(simp only[←U];exact ez),by(with_reducible repeat(first|apply Kd.V_alloc|apply Kd.V_drewN|apply Kd.V_drew));exact B.out,bz⟩
   replace H:=hE H c6
   obtain⟨ap,ar⟩:=eT c6
   clear c6
   have aD:=eq_true (od:0≤(D))
   obtain⟨aE,aF,H⟩:=hG3 H
   obtain⟨K,E⟩: ∃y_:List Int,y_=(A.take ((D):Int).toNat):=⟨_,rfl⟩
   replace H:(zat.l0 k1 K 0)=some r:=by first|(rw[E];with_reducible exact H)|(have ah:=(Option.bind_some _ _).symm.trans H;rw[E];with_reducible exact ah)|(have ah:=(Option.bind_some _ _).symm.trans H;with_reducible exact ah)|with_reducible exact H|(rw[E];exact H)|exact H
   have X:=zaa.mk E
   clear E
   have H':=zaa.mk H
   clear H
   obtain⟨aM,ae,az⟩:=Kd.V_slice B.out
   subst az
   have I:0≤((D):Int):=od
   have J:(D)<(A.length:Int):=od
   obtain⟨M,Y,Z⟩:=Kd.at_int (Kd.V_reads' B.out).2.2 (D) I J
   cases Y
   replace I:=eq_true I
   replace J:=eq_true J
   have ai:((D):Int)≤((A.length:Int):Int):=od
   obtain⟨aG,aa,_,aj,_⟩:=info_parts zgM
   have O:A.length≤ae:=(Kd.V_reads' B.out).2.1
   have ag:Kd.F (Kd.int .u64) _ _ (some M) A.length A:=(Kd.V_at (base:=w.heap.size) B.out).2.2
   have af:=ziZ (P:=Tryz.prog) 77 22 .i64 Tryz.underlying77 aa (some M) A.length ae (D) (od) ai O
   have ab:=Kd.F_take (m:=((D):Int).toNat) ag (by omega)
   have ac:K.length=((D):Int).toNat:=(by rw[X.out,List.length_take];omega)
   rw[←X.out] at ab
   rw[←ac] at af
   have ak:=zaa.mk (show Kd.V (Kd.int .u64) 22 _ w.heap.size _ (.slice (some M) K.length ae) K from Kd.V_mk (by omega) ab)
   have aA:=zaa.mk (show K.length≤ae from by omega)
   clear ab ag O aa aj
   have aH:=zaa.mk ac
   clear ac
   replace ai:=eq_true ai
   go_wp2
   go_roundg k1
   case measure=>have:=am.out;omega
   case rel=>exact⟨(K),H',⟨by have:=am.out;omega⟩,⟨by(with_reducible repeat(first|apply Kd.V_alloc|apply Kd.V_drewN|apply Kd.V_drew));exact ak.out⟩,⟨bz⟩⟩
mutual
def zan.j0:Nat→ByteArray→Int→ByteArray→Int→Option (ByteArray×Int×Int)
 |0,_,_,_,_=>none
 |k+1,B,A,D,E=>if 0≤(wrap64 ((wrap64 (A-(mn (wrap64 (A-(B.size:Int))) (wrap64 (E-(D.size:Int))))))+1)) then(if(wrap64 ((wrap64 (A-(mn (wrap64 (A-(B.size:Int))) (wrap64 (E-(D.size:Int))))))+1):Int).toNat≤281474976710656 then((some (List.replicate (wrap64 ((wrap64 (A-(mn (wrap64 (A-(B.size:Int))) (wrap64 (E-(D.size:Int))))))+1):Int).toNat 0:List Int)).bind fun I=>(zan.l0 k I (I.length:Int) 0 B A D E)) else(none)) else(none)
def zan.l0:Nat→List Int→Int→Int→ByteArray→Int→ByteArray→Int→Option (ByteArray×Int×Int)
 |0,_,_,_,_,_,_,_=>none
 |k+1,I,K,J,A,B,D,E=>if J<K then(if 0≤J then(if J<(I.length:Int) then(zan.l0 k (I.set (J:Int).toNat 48) K (wrap64 (J+1)) A B D E) else(none)) else(none)) else(if 1≤(I.length:Int) then(if 2≤(I.length:Int) then(if A.size+1≤I.length then(zan.j2 k (cpyAt I 1 A) A B D E) else(none)) else(none)) else(none))
def zan.j2:Nat→List Int→ByteArray→Int→ByteArray→Int→Option (ByteArray×Int×Int)
 |0,_,_,_,_,_=>none
 |k+1,x8,A,B,D,E=>zan.l1 k x8 0 (wrap64 ((x8.length:Int)-1)) A B D E
def zan.l1:Nat→List Int→Int→Int→ByteArray→Int→ByteArray→Int→Option (ByteArray×Int×Int)
 |0,_,_,_,_,_,_,_=>none
 |k+1,x8,K,D,I,A,E,B=>if D≥0 then(if 0≤D then(if D<(x8.length:Int) then(if(wrap64 ((wrap64 (D-1))-(wrap64 (A-B))))≥0 then(if(wrap64 ((wrap64 (D-1))-(wrap64 (A-B))))<(E.size:Int) then(if 0≤(wrap64 ((wrap64 (D-1))-(wrap64 (A-B)))) then(zan.l1 k (x8.set (D:Int).toNat (48+((((((((rd x8 D)-48)%256)+K)%256)+(((bt E (wrap64 ((wrap64 (D-1))-(wrap64 (A-B)))))-48)%256))%256)%10))) ((((((((rd x8 D)-48)%256)+K)%256)+(((bt E (wrap64 ((wrap64 (D-1))-(wrap64 (A-B)))))-48)%256))%256) / 10) (wrap64 (D-1)) I A E B) else(none)) else(zan.l1 k (x8.set (D:Int).toNat (48+((((((rd x8 D)-48)%256)+K)%256)%10))) ((((((rd x8 D)-48)%256)+K)%256) / 10) (wrap64 (D-1)) I A E B)) else(zan.l1 k (x8.set (D:Int).toNat (48+((((((rd x8 D)-48)%256)+K)%256)%10))) ((((((rd x8 D)-48)%256)+K)%256) / 10) (wrap64 (D-1)) I A E B)) else(none)) else(none)) else((zaS.f (strOfNums x8) (wrap64 (A+1))).bind fun J=>(if(J.1.size:Int)>2000 then(some ((⟨#[]⟩:ByteArray),0,2)) else(some (J.1,J.2,0))))
end
def zan.f(k:Nat)(B:ByteArray)(D:Int)(E:ByteArray)(I:Int):Option (ByteArray×Int×Int):=(zbn.f k B D E I).bind fun A=>(if A.2.2.2.2=0 then(if A.1.toList=([]:List UInt8) then(some (A.2.2.1,A.2.2.2.1,0)) else(if A.2.2.1.toList=([]:List UInt8) then(some (A.1,A.2.1,0)) else((zaO.f k A.1 A.2.1 A.2.2.1 A.2.2.2.1).bind fun J=>(if J<0 then(zan.j0 k A.2.2.1 A.2.2.2.1 A.1 A.2.1) else(zan.j0 k A.1 A.2.1 A.2.2.1 A.2.2.2.1))))) else(some ((⟨#[]⟩:ByteArray),0,A.2.2.2.2)))
theorem zan.calls(k:Nat)(aB:ByteArray)(aC:Int)(aO:ByteArray)(aP:Int)(r1:ByteArray)(r2:Int)(r3:Int)(w:World)(h:zan.f k aB aC aO aP=some (r1,r2,r3)):
  Calls Tryz.prog 83 #[.agg #[.string aB,.int .i64 aC],.agg #[.string aO,.int .i64 aP]] w fun e w'=>e= .returned (.tuple #[.agg #[.string r1,.int .i64 r2],.int .i64 r3])∧Below w.heap.size w w':=by
 have it:=Tryz.underlying42
 have HB:=zaa.mk (Below.refl w.heap.size w)
 have H:((zbn.f k aB aC aO aP).bind fun am=>(if am.2.2.2.2=0 then(if am.1.toList=([]:List UInt8) then(some (am.2.2.1,am.2.2.2.1,0)) else(if am.2.2.1.toList=([]:List UInt8) then(some (am.1,am.2.1,0)) else((zaO.f k am.1 am.2.1 am.2.2.1 am.2.2.2.1).bind fun cj=>(if cj<0 then(zan.j0 k am.2.2.1 am.2.2.2.1 am.1 am.2.1) else(zan.j0 k am.1 am.2.1 am.2.2.1 am.2.2.2.1))))) else(some ((⟨#[]⟩:ByteArray),0,am.2.2.2.2))))=some (r1,r2,r3):=h
 clear h
 replace H:=bs H
 obtain⟨⟨ay,bW,az,bX,c6⟩,A3,H⟩:=H
 dsimp only at H
 go_enter Tryz.func83,Tryz.ntmps83
 go_upto_if 22 with(first|((with_reducible refine zah (N:=2) rfl ?_);(try(refine zb4 (by rfl) ?_;dsimp only));refine zag rfl (N:=2) rfl (cs:=#[.string aB,.int .i64 aC]) (t:=42) gz ?_;intro af hg w4 hbox hb;have gY:=gN bz hg;have J:=zaa.mk hbox;replace HB:=bN bz hb;clear hb hbox hg)|((with_reducible refine zah (N:=3) rfl ?_);(try(refine zb4 (by rfl) ?_;dsimp only));refine zag rfl (N:=3) rfl (cs:=#[.string aO,.int .i64 aP]) (t:=42) gz ?_;intro aj hg w5 hbox hb;have gZ:=gN bz hg;have ag:=lN (g:=af) (cs:=#[.string aB,.int .i64 aC]) hg bk;have ah:=rN (g:=af) (cs:=#[.string aB,.int .i64 aC]) hg bk;replace J:=kN (g:=af) (cs:=#[.string aB,.int .i64 aC]) hb bk;have K:=zaa.mk hbox;replace HB:=bN bz hb;clear hb hbox hg)|((with_reducible refine zah (N:=4) rfl ?_);(try(refine zb4 (by rfl) ?_;dsimp only));refine zag rfl (N:=4) rfl (cs:=#[.string (⟨#[]⟩:ByteArray),.int .i64 0]) (t:=42) gz ?_;intro ai hg w6 hbox hb;have g0:=gN bz hg;have Y:=lN (g:=af) (cs:=#[.string aB,.int .i64 aC]) hg bk;have Z:=rN (g:=af) (cs:=#[.string aB,.int .i64 aC]) hg bk;have ad:=lN (g:=aj) (cs:=#[.string aO,.int .i64 aP]) hg bk;have ae:=rN (g:=aj) (cs:=#[.string aO,.int .i64 aP]) hg bk;replace J:=kN (g:=af) (cs:=#[.string aB,.int .i64 aC]) hb bk;replace K:=kN (g:=aj) (cs:=#[.string aO,.int .i64 aP]) hb bk;have M:=zaa.mk hbox;replace HB:=bN bz hb;clear hb hbox hg;have iu:=ag.out;have iv:=ah.out;have iw:=Y.out;have ix:=Z.out;obtain⟨bf,bg,bh,bi⟩:=cz2 J;have g1:=ad.out;have g2:=ae.out;obtain⟨aQ,aR,aS,aT⟩:=cz2 K)|(go_at_call 127;(with_reducible refine(zbn.calls k aB aC aO aP ay bW az bX c6 _ A3.out).mono ?_);rintro e iW ⟨rfl,hb⟩;replace J:=kN (g:=af) (cs:=#[.string aB,.int .i64 aC]) hb bk;replace K:=kN (g:=aj) (cs:=#[.string aO,.int .i64 aP]) hb bk;replace M:=kN (g:=ai) (cs:=#[.string (⟨#[]⟩:ByteArray),.int .i64 0]) hb bk;replace HB:=bN bz hb;(try clear hb);(try clear eD);(try clear hk);(try clear hi);obtain⟨aU,aV,aW,aX⟩:=cz2 J;obtain⟨aY,aZ,a1,a2⟩:=cz2 K))
 (try simp only[Act.put,List.setIfInBounds_toArray,List.set_cons_zero,List.set_cons_succ])
 by_cases b0:c6=0
 case neg=>
  replace H:=hN H b0
  obtain⟨aI,aJ⟩:=eF b0
  try first|rw[aI]|rw[aJ]
  obtain⟨rfl,rfl,rfl⟩:=o3 H
  have gU:=Z.out
  have gV:=Y.out
  have gW:=ae.out
  have gX:=ad.out
  obtain⟨ey,eA,eB,eC⟩:=cz2 M
  go_wp2
  refine bodyPost_ret (zaK rfl _ _ ai 42 #[.string (⟨#[]⟩:ByteArray),.int .i64 0] (0,0) _ rfl bk Tryz.underlying42 rfl (by kernel_rfl)) rfl ?_
  exact⟨ez,bz⟩
 replace H:=hE H b0
 obtain⟨aI,aJ⟩:=eT b0
 clear b0
 try first|rw[aI]|rw[aJ]
 by_cases bj:ay.toList=([]:List UInt8)
 ·replace H:=hE H bj
  have aK:(ay.toList==([]:List UInt8))=true:=beq_iff_eq.mpr bj
  have bl:(ay.toList !=([]:List UInt8))=false:=bne_eq_false_iff_eq.mpr bj
  have dy:ay.toList.isEmpty=true:=by simpa using aK
  clear bj
  obtain⟨rfl,rfl,rfl⟩:=o3 H
  have g3:=ag.out
  have g4:=ah.out
  have g5:=Y.out
  have g6:=Z.out
  obtain⟨eE,eG,eH,eI⟩:=cz2 J
  have g7:=ad.out
  have g8:=ae.out
  obtain⟨eJ,eK,eL,eM⟩:=cz2 K
  obtain⟨eN,eO,eP,eQ⟩:=cz2 M
  go_wp2
  refine bodyPost_ret (zaK rfl _ _ ai 42 #[.string az,.int .i64 bX] (0,0) _ rfl bk Tryz.underlying42 rfl (by kernel_rfl)) rfl ?_
  exact⟨ez,bz⟩
 replace H:=hN H bj
 have aK:(ay.toList==([]:List UInt8))=false:=beq_eq_false_iff_ne.mpr bj
 have bl:(ay.toList !=([]:List UInt8))=true:=bne_iff_ne.mpr bj
 have dy:ay.toList.isEmpty=false:=by simpa using aK
 by_cases bm:az.toList=([]:List UInt8)
 ·replace H:=hE H bm
  have aL:(az.toList==([]:List UInt8))=true:=beq_iff_eq.mpr bm
  have bn:(az.toList !=([]:List UInt8))=false:=bne_eq_false_iff_eq.mpr bm
  have dA:az.toList.isEmpty=true:=by simpa using aL
  clear bm
  obtain⟨rfl,rfl,rfl⟩:=o3 H
  have g9:=ag.out
  have ha:=ah.out
  have hc:=Y.out
  have he:=Z.out
  obtain⟨eR,eS,eU,eV⟩:=cz2 J
  have hf:=ad.out
  have hh:=ae.out
  obtain⟨eW,eX,eY,eZ⟩:=cz2 K
  obtain⟨e0,e1,e2,e3⟩:=cz2 M
  go_wp2
  refine bodyPost_ret (zaK rfl _ _ ai 42 #[.string ay,.int .i64 bW] (0,0) _ rfl bk Tryz.underlying42 rfl (by kernel_rfl)) rfl ?_
  exact⟨ez,bz⟩
 replace H:=hN H bm
 have aL:(az.toList==([]:List UInt8))=false:=beq_eq_false_iff_ne.mpr bm
 have bn:(az.toList !=([]:List UInt8))=true:=bne_iff_ne.mpr bm
 have dA:az.toList.isEmpty=false:=by simpa using aL
 replace H:=bs H
 obtain⟨cj,hj,H⟩:=H
 have cz:=zaa.mk H
 clear H
 have hl:=ag.out
 have hm:=ah.out
 have hp:=Y.out
 have hq:=Z.out
 obtain⟨a3,a4,a5,a6⟩:=cz2 J
 have hs:=ad.out
 have ht:=ae.out
 obtain⟨a7,a8,a9,ba⟩:=cz2 K
 go_upto_if 40 with(first|(go_at_call 128;(with_reducible refine(zaO.calls k ay bW az bX cj _ hj.out).mono ?_);rintro e iX ⟨rfl,hb⟩;replace J:=kN (g:=af) (cs:=#[.string ay,.int .i64 bW]) hb bk;replace K:=kN (g:=aj) (cs:=#[.string az,.int .i64 bX]) hb bk;replace M:=kN (g:=ai) (cs:=#[.string (⟨#[]⟩:ByteArray),.int .i64 0]) hb bk;replace HB:=bN bz hb;(try clear hb);(try clear eD);(try clear hk);(try clear hi)))
 (try simp only[Act.put,List.setIfInBounds_toArray,List.set_cons_zero,List.set_cons_succ])
 go_cut [] (fun wc=> ∃(kq:Nat) (E:ByteArray) (A:Int) (B:ByteArray) (D:Int),zaa (zan.j0 kq E A B D=some (r1,r2,r3))∧zaa (kq≤k)∧zaa (wc.heap[af]? =some (.cells #[.string E,.int .i64 A] 42 (0,0)))∧zaa (wc.heap[aj]? =some (.cells #[.string B,.int .i64 D] 42 (0,0)))∧zaa (wc.heap[ai]? =some (.cells #[.string (⟨#[]⟩:ByteArray),.int .i64 0] 42 (0,0)))∧zaa (Below w.heap.size w wc))
 case first=>
  have H:=cz.out
  clear cz
  by_cases cu:cj<0
  ·replace H:=hE H cu
   have cb:=decide_eq_true cu
   clear cu
   try rw[cb]
   have H':=zaa.mk H
   clear H
   have hu:=ah.out
   have hv:=ag.out
   have hx:=ad.out
   have hy:=ae.out
   obtain⟨e4,e5,e6,e7⟩:=cz2 K
   have hz:=Y.out
   have hA:=Z.out
   obtain⟨e8,e9,fa,fb⟩:=cz2 J
   go_wp2
   go_meet
   case rel=>exact⟨_,(az),(bX),(ay),(bW),H',⟨by first|omega|exact Nat.le_refl _⟩,⟨bk⟩,⟨bk⟩,⟨bk⟩,⟨bz⟩⟩
  replace H:=hN H cu
  have cb:=decide_eq_false cu
  clear cu
  try rw[cb]
  have H':=zaa.mk H
  clear H
  go_wp2
  go_meet
  case rel=>exact⟨_,(ay),(bW),(az),(bX),H',⟨by first|omega|exact Nat.le_refl _⟩,⟨bk⟩,⟨bk⟩,⟨bk⟩,⟨bz⟩⟩
 case rest=>
  clear cz
  try clear b0
  try clear aI
  try clear aJ
  try clear bj
  try clear aK
  try clear bl
  try clear bm
  try clear aL
  try clear bn
  try clear aQ aR aS aT
  try clear aU aV aW aX
  try clear aY aZ a1 a2
  try clear a3 a4 a5 a6
  try clear a7 a8 a9 ba
  try clear bf bg bh bi
  obtain⟨kq,E,A,B,D,HA,bb,J,K,M,HB⟩:=hcut
  cases kq with
  |zero=>exact absurd HA.out (by simp[zan.j0])
  |succ cA=>
   have H:=HA.out
   clear HA
   simp only[zan.j0] at H
   obtain⟨cB,bo⟩:=ex (mn (wrap64 (A-(E.size:Int))) (wrap64 (D-(B.size:Int))))
   (first|rw[bo] at H|simp only[bo] at H)
   have f8:(if(wrap64 (D-(B.size:Int)))<(wrap64 (A-(E.size:Int))) then(wrap64 (D-(B.size:Int))) else(wrap64 (A-(E.size:Int))))=cB:=bo
   obtain⟨ck,bp⟩:=ex (wrap64 ((wrap64 (A-(cB)))+1))
   (first|rw[bp] at H|simp only[bp] at H)
   have f9:(IntKind.i64.wrap ((wrap64 (A-(cB)))+1))=ck:=(zar _).trans bp
   obtain⟨cc,cd,H⟩:=hG3 H
   obtain⟨ce,cf,H⟩:=hG3 H
   obtain⟨bq,br⟩: ∃y_:List Int,y_=(List.replicate (ck:Int).toNat 0):=⟨_,rfl⟩
   replace H:(zan.l0 cA bq (bq.length:Int) 0 E A B D)=some (r1,r2,r3):=by first|(rw[br];with_reducible exact H)|(have aw:=(Option.bind_some _ _).symm.trans H;rw[br];with_reducible exact aw)|(have aw:=(Option.bind_some _ _).symm.trans H;with_reducible exact aw)|with_reducible exact H|(rw[br];exact H)|exact H
   have cC:=zaa.mk br
   clear br
   have H':=zaa.mk H
   clear H
   have hB:=ag.out
   have hC:=ah.out
   have hD:=Y.out
   have hH:=Z.out
   obtain⟨bu,bv,bw,bA⟩:=cz2 J
   have hI:=ad.out
   have hJ:=ae.out
   obtain⟨bB,bC,bD,bE⟩:=cz2 K
   go_wp2_with (first|((with_reducible refine zah (N:=61) rfl ?_);(try(refine zb4 (by rfl) ?_;dsimp only));refine Kd.R_make (Kd.int .u8) _ 5 rfl (N:=61) rfl 51 _ _ rfl ck rfl rfl Tryz.underlying51 (.int .u8 0) 1 zh3 rfl (by decide) (by omega) 0 (ok:=fun _=>True) (okp:=fun _=>True) rfl (fun _ hk=>hk) trivial (od) (Nat.le_trans (Nat.mul_le_mul_right _ (od:ck.toNat≤281474976710656)) (by omega)) (Below.refl _ _) (Nat.le_refl _) ?_;intro iy iY b5 hb hg_ hnew_;clear hg_ hnew_;(first|rw[←cC.out] at b5|(simp only[Int.reduceToNat] at b5;rw[←cC.out] at b5));have an:=zaa.mk (Kd.R_lower b5 (zaG bz));have ao:=kN (g:=af) (cs:=#[.string E,.int .i64 A]) hb bk;have ap:=kN (g:=aj) (cs:=#[.string B,.int .i64 D]) hb bk;have ar:=kN (g:=ai) (cs:=#[.string (⟨#[]⟩:ByteArray),.int .i64 0]) hb bk;have au:=bN bz hb;clear J;clear K;clear M;clear HB;have cD:=an;have J:=ao;have K:=ap;have M:=ar;have HB:=au;clear an ao ap ar au;clear hb b5;obtain⟨bG,aA,fc⟩:=Kd.R_slice cD.out;subst fc))
   go_loopg [64] cA (fun kq hK w'=> ∃(ab:List Int) (ax:Int),hK= .int .i64 ax∧zaa (zan.l0 kq ab (bq.length:Int) ax E A B D=some (r1,r2,r3))∧zaa (kq≤cA)∧zaa (Kd.R (Kd.int .u8) 5 w' w.heap.size (fun _=>True) (.slice bG bq.length aA) ab)∧zaa (w'.heap[af]? =some (.cells #[.string E,.int .i64 A] 42 (0,0)))∧zaa (w'.heap[aj]? =some (.cells #[.string B,.int .i64 D] 42 (0,0)))∧zaa (w'.heap[ai]? =some (.cells #[.string (⟨#[]⟩:ByteArray),.int .i64 0] 42 (0,0)))∧zaa (Below w.heap.size w w'))
   case atStart=>exact⟨(bq),(0),rz,H',⟨Nat.le_refl _⟩,⟨by(with_reducible repeat(first|apply Kd.R_alloc|apply Kd.R_drewN|apply Kd.R_drew));exact cD.out⟩,⟨bk⟩,⟨bk⟩,⟨bk⟩,⟨bz⟩⟩
   case round=>
    clear H'
    try clear b0
    try clear aI
    try clear aJ
    try clear bj
    try clear aK
    try clear bl
    try clear bm
    try clear aL
    try clear bn
    try clear cc
    try clear cd
    try clear ce
    try clear cf
    try clear aQ aR aS aT
    try clear aU aV aW aX
    try clear aY aZ a1 a2
    try clear a3 a4 a5 a6
    try clear a7 a8 a9 ba
    try clear bu bv bw bA
    try clear bB bC bD bE
    try clear bf bg bh bi
    obtain⟨ab,ax,rfl,HA,b1,X,J,K,M,HB⟩:=hrel
    have O:=(Kd.R_reads' X.out).1
    rw[O] at X
    (try simp only[O])
    (try simp only[O] at J)
    (try simp only[O] at K)
    (try simp only[O] at M)
    cases gk with
    |zero=>exact absurd HA.out (by simp[zan.l0])
    |succ k2=>
     have H:=HA.out
     clear HA
     simp only[zan.l0] at H
     by_cases b6:ax<(bq.length:Int)
     ·replace H:=hE H b6
      have bH:=decide_eq_true b6
      (try(have cg:=bH;(first|rw[O] at cg);skip))
      clear b6
      obtain⟨fe,H⟩:=hG H
      have hL:=decide_eq_true fe
      clear fe
      obtain⟨fg,H⟩:=hG H
      have dB:=decide_eq_true fg
      (try(have dC:=dB;(first|rw[O] at dC);skip))
      clear fg
      obtain⟨cF,bI⟩: ∃y_:List Int,y_=(ab.set (ax:Int).toNat 48):=⟨_,rfl⟩
      replace H:(zan.l0 k2 cF (bq.length:Int) (wrap64 (ax+1)) E A B D)=some (r1,r2,r3):=by first|(rw[bI];with_reducible exact H)|(have aw:=(Option.bind_some _ _).symm.trans H;rw[bI];with_reducible exact aw)|(have aw:=(Option.bind_some _ _).symm.trans H;with_reducible exact aw)|with_reducible exact H|(rw[bI];exact H)|exact H
      have dD:=zaa.mk bI
      clear bI
      have H':=zaa.mk H
      clear H
      have p59:0≤(ax:Int):=od
      have dE:(ax:Int)<((ab.length:Int):Int):=od
      obtain⟨cG,iz,c7,c8,fh,iA,c9⟩:=Kd.R_form X.out (by omega)
      (first|cases c7|(injection c7 with ea_ en_ ec_;(first|subst ea_|(injection ea_ with ea_;subst ea_));subst ec_;clear en_))
      have fi:=zaa.mk c8
      have iB:=zaa.mk c9
      clear c8 fh c9
      obtain⟨ga,gb⟩:=Kd.R_celln 0 X.out (ax:Int) p59 dE
      replace p59:=eq_true p59
      replace dE:=eq_true dE
      have cm:=Kd.R_putg X.out (ax:Int) 48
      go_wp2_with (first|((with_reducible refine zb2 (t:=5) (p:=69) rfl ?_);(try(rw[zb5 wr];generalize av:World.drewN wr _=wr;have an:=zaa.mk (Kd.R_at av X.out);have ao:=zaa.mk (zbv av J.out);have ap:=zaa.mk (zbv av K.out);have ar:=zaa.mk (zbv av M.out);have au:=zaa.mk (zcy av HB.out);clear av X J K M HB;have X:=an;have J:=ao;have K:=ap;have M:=ar;have HB:=au;clear an ao ap ar au;(try(have cm:=Kd.R_putg X.out (ax:Int) 48))));refine zbS (t:=5) (p:=69) (v:=?vo_w61) (w1:=(wr.setCell ⟨cG,(ax:Int).toNat,none⟩ (.int .u8 48))) ?hg ?ho ?hn ?hr ?_;(case ho=>rfl);(case hg=>rfl);(case hn=>rfl);(case hr=>first|(go_simp;done)|(go_simp;rfl));intro dF hw;have hg:wr.grownBy dF (some cG):=(by rw[hw];exact cm.2);have hp_:Kd.R (Kd.int .u8) 5 dF w.heap.size (fun _=>True) (.slice (some ⟨cG,0,none⟩) ab.length aA) cF:=(by rw[hw,dD.out];exact cm.1);clear cm;have an:=zaa.mk (hp_);have ao:=zaa.mk (zbb (g:=af) (o:=.cells #[.string E,.int .i64 A] 42 (0,0)) bk hg (Kd.R_ne X.out J.out (by decide)));have ap:=zaa.mk (zbb (g:=aj) (o:=.cells #[.string B,.int .i64 D] 42 (0,0)) bk hg (Kd.R_ne X.out K.out (by decide)));have ar:=zaa.mk (zbb (g:=ai) (o:=.cells #[.string (⟨#[]⟩:ByteArray),.int .i64 0] 42 (0,0)) bk hg (Kd.R_ne X.out M.out (by decide)));have au:=zaa.mk ((by rw[hw];exact zbt (HB.out) fi.out:Below w.heap.size w dF));clear X;clear J;clear K;clear M;clear HB;have X:=an;have J:=ao;have K:=ap;have M:=ar;have HB:=au;clear an ao ap ar au;clear hg hw hp_))
      (try simp only[←O])
      go_roundg k2
      case measure=>have:=bb.out;have:=b1.out;omega
      case rel=>exact⟨(cF),(wrap64 (ax+1)),rz,H',⟨by have:=bb.out;have:=b1.out;omega⟩,⟨by(try simp only[O]);(with_reducible repeat(first|apply Kd.R_alloc|apply Kd.R_drewN|apply Kd.R_drew));exact X.out⟩,⟨by(try simp only[O]);(with_reducible repeat(first|refine za2 ?_ _|refine zao ?_|refine za1 ?_ _));exact J.out⟩,⟨by(try simp only[O]);(with_reducible repeat(first|refine za2 ?_ _|refine zao ?_|refine za1 ?_ _));exact K.out⟩,⟨by(try simp only[O]);(with_reducible repeat(first|refine za2 ?_ _|refine zao ?_|refine za1 ?_ _));exact M.out⟩,⟨bz⟩⟩
     replace H:=hN H b6
     have bH:=decide_eq_false b6
     (try(have cg:=bH;(first|rw[O] at cg);skip))
     clear b6
     have cH:=zaa.mk H
     clear H
     go_upto_region 17 with(fail)
     go_cut [] (fun wc=> ∃(kq:Nat) (bd:List Int),zaa (zan.j2 kq bd E A B D=some (r1,r2,r3))∧zaa (kq≤k2)∧zaa (Kd.R (Kd.int .u8) 5 wc w.heap.size (fun _=>True) (.slice bG ab.length aA) bd)∧zaa (wc.heap[af]? =some (.cells #[.string E,.int .i64 A] 42 (0,0)))∧zaa (wc.heap[aj]? =some (.cells #[.string B,.int .i64 D] 42 (0,0)))∧zaa (wc.heap[ai]? =some (.cells #[.string (⟨#[]⟩:ByteArray),.int .i64 0] 42 (0,0)))∧zaa (Below w.heap.size w wc))
     case first=>
      have H:=cH.out
      clear cH
      obtain⟨hM,hO,H⟩:=hG3 H
      obtain⟨b7,bJ⟩: ∃y_:List Int,y_=(ab.drop 1):=⟨_,rfl⟩
      replace H:(if 2≤(ab.length:Int) then(if E.size+1≤ab.length then(zan.j2 k2 (cpyAt ab 1 E) E A B D) else(none)) else(none))=some (r1,r2,r3):=by first|(rw[bJ];with_reducible exact H)|(have aw:=(Option.bind_some _ _).symm.trans H;rw[bJ];with_reducible exact aw)|(have aw:=(Option.bind_some _ _).symm.trans H;with_reducible exact aw)|with_reducible exact H|(rw[bJ];exact H)|exact H
      have cI:=zaa.mk bJ
      clear bJ
      obtain⟨hP,hQ,H⟩:=hG3 H
      obtain⟨fj,H⟩:=hG H
      have hR:=eq_true fj
      have hS:=decide_eq_true fj
      obtain⟨cJ,bK⟩: ∃y_:List Int,y_=(cpyAt ab 1 E):=⟨_,rfl⟩
      replace H:(zan.j2 k2 cJ E A B D)=some (r1,r2,r3):=by first|(rw[bK];with_reducible exact H)|(have aw:=(Option.bind_some _ _).symm.trans H;rw[bK];with_reducible exact aw)|(have aw:=(Option.bind_some _ _).symm.trans H;with_reducible exact aw)|with_reducible exact H|(rw[bK];exact H)|exact H
      have dG:=zaa.mk bK
      clear bK
      have H':=zaa.mk H
      clear H
      have dH:(1:Int)≤((ab.length:Int):Int):=od
      obtain⟨iC,cK,_,cL,_⟩:=info_parts zh3
      have bL:ab.length≤aA:=(Kd.R_reads' X.out).2.1
      have da:Kd.C (Kd.int .u8) _ bG ab.length ab:=(Kd.R_reads' X.out).2.2
      have c5:=zhx (P:=Tryz.prog) 51 5 .i64 Tryz.underlying51 cK 1 cL bG ab.length aA 1 (by omega) dH
      have b8:=Kd.C_drop (m:=(1:Int).toNat) (c:=aA) da (by omega) bL
      obtain⟨fk,cn⟩: ∃A1,A1=(if aA=(1:Int).toNat then bG else(bG:Option Addr).map (·.add ((1:Int).toNat*1))):=⟨_,rfl⟩
      obtain⟨hU,cM⟩: ∃c1,c1=aA-(1:Int).toNat:=⟨_,rfl⟩
      have co:b7.length=ab.length-(1:Int).toNat:=(by rw[cI.out,List.length_drop]<;>omega)
      rw[show(ab).drop (1:Int).toNat=b7 from cI.out.symm] at b8
      replace b8:Kd.C (Kd.int .u8) _ fk b7.length b7:=(by rw[cn];exact b8)
      rw[←co,←cn,←cM] at c5
      have hV:=zaa.mk b8
      have hW:=zaa.mk (show b7.length≤hU from by rw[co,cM];exact Nat.sub_le_sub_right bL _)
      clear b8 da bL cK cL cM
      have fl:=zaa.mk co
      have fm:=zaa.mk cn
      clear co cn
      have iD:=zaa.mk (show 1≤ab.length from by omega)
      replace dH:=eq_true dH
      have hX:=ag.out
      have hY:=ah.out
      have hZ:=Y.out
      have h0:=Z.out
      obtain⟨fo,fp,fq,fs⟩:=cz2 J
      have p66:0≤(0:Int):=(by omega)
      have dI:(0:Int)<((ab.length:Int):Int):=od
      have iE:(0<ab.length)=True:=eq_true (by omega)
      obtain⟨cN,iF,db,dc,ft,iG,dd⟩:=Kd.R_form X.out (by omega)
      (first|cases db|(injection db with ea_ en_ ec_;(first|subst ea_|(injection ea_ with ea_;subst ea_));subst ec_;clear en_))
      have iH:=zaa.mk dc
      have iI:=zaa.mk dd
      clear dc ft dd
      obtain⟨cp,cq⟩:=Kd.R_celln 0 X.out (0:Int) p66 dI
      (try rw[show((0:Int)).toNat=0 from rfl] at cp)
      (try simp only[Nat.reduceMul,Nat.zero_mul,Nat.zero_add,Nat.reduceAdd] at cp)
      (try rw[show((0:Int)).toNat=0 from rfl] at cq)
      (try simp only[Nat.reduceMul,Nat.zero_mul,Nat.zero_add,Nat.reduceAdd] at cq)
      replace p66:=eq_true p66
      replace dI:=eq_true dI
      have iJ:=Kd.R_putg X.out (0:Int) 0
      have h1:2≤ab.length:=by have h_:(2:Int)≤(ab.length:Int):=of_decide_eq_true (by assumption);omega
      have hfit_:E.size+1≤ab.length:=of_decide_eq_true (by assumption)
      have de:fk=some ⟨cN,1,none⟩:=by
       have h_:=fm.out
       have hc_:=(Kd.R_reads' X.out).2.1
       rw[if_neg (by simp;omega)] at h_
       rw[h_];rfl
      have hyl_:=fl.out
      have fu:=zaa.mk de
      clear de
      have Hfit_:=zaa.mk hfit_
      have Hyl_:=zaa.mk hyl_
      clear hyl_ hfit_
      go_region_law ((try(rw[zb5 wr];generalize av:World.drewN wr _=wr;have an:=zaa.mk (Kd.R_at av X.out);have ao:=zaa.mk (zbv av J.out);have ap:=zaa.mk (zbv av K.out);have ar:=zaa.mk (zbv av M.out);have au:=zaa.mk (zcy av HB.out);clear av X J K M HB;have X:=an;have J:=ao;have K:=ap;have M:=ar;have HB:=au;clear an ao ap ar au));refine zfH (w0:=w) rfl _ _ _ _ rfl 5 Tryz.underlying51 (by kernel_rfl) (g:=cN) rfl fu.out E rfl (by have h2:=Hyl_.out;have h1:=Hfit_.out;rw[h2];simp;omega) Hfit_.out X.out bz ?_;intro fv ho_ hg hb_;have hp_:Kd.R (Kd.int .u8) 5 fv w.heap.size (fun _=>True) (.slice (some ⟨cN,0,none⟩) ab.length aA) cJ:=(by rw[dG.out];exact ho_);clear ho_;have an:=zaa.mk (hp_);have ao:=zaa.mk (zbb (g:=af) (o:=.cells #[.string E,.int .i64 A] 42 (0,0)) bk hg (Kd.R_ne X.out J.out (by decide)));have ap:=zaa.mk (zbb (g:=aj) (o:=.cells #[.string B,.int .i64 D] 42 (0,0)) bk hg (Kd.R_ne X.out K.out (by decide)));have ar:=zaa.mk (zbb (g:=ai) (o:=.cells #[.string (⟨#[]⟩:ByteArray),.int .i64 0] 42 (0,0)) bk hg (Kd.R_ne X.out M.out (by decide)));have au:=zaa.mk ((hb_:Below w.heap.size w fv));clear X;clear J;clear K;clear M;clear HB;have X:=an;have J:=ao;have K:=ap;have M:=ar;have HB:=au;clear an ao ap ar au;clear hg hb_ hp_)
      all_goals(try go_wp2)
      go_meet
      case rel=>exact⟨_,(cJ),H',⟨by have:=bb.out;have:=b1.out;first|omega|exact Nat.le_refl _⟩,⟨by(try simp only[O]);(with_reducible repeat(first|apply Kd.R_alloc|apply Kd.R_drewN|apply Kd.R_drew));exact X.out⟩,⟨by(try simp only[O]);(with_reducible repeat(first|refine za2 ?_ _|refine zao ?_|refine za1 ?_ _));exact J.out⟩,⟨by(try simp only[O]);(with_reducible repeat(first|refine za2 ?_ _|refine zao ?_|refine za1 ?_ _));exact K.out⟩,⟨by(try simp only[O]);(with_reducible repeat(first|refine za2 ?_ _|refine zao ?_|refine za1 ?_ _));exact M.out⟩,⟨bz⟩⟩
     case rest=>
      clear cH
      try clear b0
      try clear aI
      try clear aJ
      try clear bj
      try clear aK
      try clear bl
      try clear bm
      try clear aL
      try clear bn
      try clear cc
      try clear cd
      try clear ce
      try clear cf
      try clear b6
      try clear bH
      try clear aQ aR aS aT
      try clear aU aV aW aX
      try clear aY aZ a1 a2
      try clear a3 a4 a5 a6
      try clear a7 a8 a9 ba
      try clear bu bv bw bA
      try clear bB bC bD bE
      try clear bf bg bh bi
      obtain⟨kq,bd,HA,bY,U,J,K,M,HB⟩:=hcut
      have aa:=(Kd.R_reads' U.out).1
      rw[aa] at U
      (try simp only[aa])
      (try simp only[aa] at J)
      (try simp only[aa] at K)
      (try simp only[aa] at M)
      cases kq with
      |zero=>exact absurd HA.out (by simp[zan.j2])
      |succ df=>
       have H:=HA.out
       clear HA
       simp only[zan.j2] at H
       have H':=zaa.mk H
       clear H
       go_wp2
       go_loopg [10,11] df (fun kq h3 h4 w'=> ∃(ac:List Int) (ak:Int) (I:Int),h3= .int .u8 ak∧h4= .int .i64 I∧zaa (zan.l1 kq ac ak I E A B D=some (r1,r2,r3))∧zaa (kq≤df)∧zaa (Kd.R (Kd.int .u8) 5 w' w.heap.size (fun _=>True) (.slice bG bd.length aA) ac)∧zaa (w'.heap[af]? =some (.cells #[.string E,.int .i64 A] 42 (0,0)))∧zaa (w'.heap[aj]? =some (.cells #[.string B,.int .i64 D] 42 (0,0)))∧zaa (w'.heap[ai]? =some (.cells #[.string (⟨#[]⟩:ByteArray),.int .i64 0] 42 (0,0)))∧zaa (Below w.heap.size w w'))
       case atStart=>exact⟨(bd),(0),(wrap64 ((bd.length:Int)-1)),rz,rz,H',⟨Nat.le_refl _⟩,⟨by(try simp only[O]);(try simp only[aa]);(with_reducible repeat(first|apply Kd.R_alloc|apply Kd.R_drewN|apply Kd.R_drew));exact U.out⟩,⟨by(try simp only[O]);(try simp only[aa]);(with_reducible repeat(first|refine za2 ?_ _|refine zao ?_|refine za1 ?_ _));exact J.out⟩,⟨by(try simp only[O]);(try simp only[aa]);(with_reducible repeat(first|refine za2 ?_ _|refine zao ?_|refine za1 ?_ _));exact K.out⟩,⟨by(try simp only[O]);(try simp only[aa]);(with_reducible repeat(first|refine za2 ?_ _|refine zao ?_|refine za1 ?_ _));exact M.out⟩,⟨bz⟩⟩
       case round=>
        clear H'
        try clear b0
        try clear aI
        try clear aJ
        try clear bj
        try clear aK
        try clear bl
        try clear bm
        try clear aL
        try clear bn
        try clear cc
        try clear cd
        try clear ce
        try clear cf
        try clear b6
        try clear bH
        try clear aQ aR aS aT
        try clear aU aV aW aX
        try clear aY aZ a1 a2
        try clear a3 a4 a5 a6
        try clear a7 a8 a9 ba
        try clear bu bv bw bA
        try clear bB bC bD bE
        try clear bf bg bh bi
        obtain⟨ac,ak,I,rfl,rfl,HA,cv,U,J,K,M,HB⟩:=hrel
        have al:=(Kd.R_reads' U.out).1
        rw[al] at U
        (try simp only[al])
        (try simp only[al] at J)
        (try simp only[al] at K)
        (try simp only[al] at M)
        cases gk with
        |zero=>exact absurd HA.out (by simp[zan.l1])
        |succ k4=>
         have H:=HA.out
         clear HA
         simp only[zan.l1] at H
         by_cases cw:I≥0
         case neg=>
          replace H:=hN H cw
          have dJ:decide (0≤I)=false:=decide_eq_false cw
          clear cw
          replace H:=bs H
          obtain⟨⟨bQ,ds⟩,f2,H⟩:=H
          dsimp only at H
          have gp:=zc4 (P:=Tryz.prog) Tryz.underlying51 Tryz.underlying5 Tryz.underlying9 (Kd.own_of_R U.out)
          have gq:=ag.out
          have gr:=ah.out
          have gs:=Y.out
          have gt:=Z.out
          obtain⟨eb,ec,ed,ee⟩:=cz2 J
          go_upto_if 132 with(first|(go_at_call 49;(with_reducible refine(zaS.calls (strOfNums ac) (wrap64 (A+1)) bQ ds _ f2.out).mono ?_);rintro e iU ⟨rfl,hb⟩;have an:=zaa.mk (Kd.R_below (by(with_reducible repeat(first|apply Kd.R_alloc|apply Kd.R_drewN|apply Kd.R_drew));exact U.out) hb);have ao:=kN (g:=af) (cs:=#[.string E,.int .i64 A]) hb bk;have ap:=kN (g:=aj) (cs:=#[.string B,.int .i64 D]) hb bk;have ar:=kN (g:=ai) (cs:=#[.string (⟨#[]⟩:ByteArray),.int .i64 0]) hb bk;have au:=bN bz hb;clear U;clear J;clear K;clear M;clear HB;have U:=an;have J:=ao;have K:=ap;have M:=ar;have HB:=au;clear an ao ap ar au;(try clear hb);(try clear eD);(try clear hk);(try clear hi))|((with_reducible refine zah (N:=14) rfl ?_);(try(refine zb4 (by rfl) ?_;dsimp only));refine zag rfl (N:=14) rfl (cs:=#[.string (⟨#[]⟩:ByteArray),.int .i64 0]) (t:=42) gz ?_;intro aG hg iV hbox hb;have an:=zaa.mk (Kd.R_below (by(with_reducible repeat(first|apply Kd.R_alloc|apply Kd.R_drewN|apply Kd.R_drew));exact U.out) hb);have ao:=kN (g:=af) (cs:=#[.string E,.int .i64 A]) hb bk;have ap:=kN (g:=aj) (cs:=#[.string B,.int .i64 D]) hb bk;have ar:=kN (g:=ai) (cs:=#[.string (⟨#[]⟩:ByteArray),.int .i64 0]) hb bk;have au:=bN bz hb;have f3:=zaa.mk (hbox);have f4:=zaa.mk ((by rw[hg];exact(zaG bz):w.heap.size≤aG));have f5:=zaa.mk ((by rw[hg];exact(zaG bz):w.heap.size≤aG));have f6:=zaa.mk ((by rw[hg];exact Nat.ne_of_lt (zaW (g:=af) (o:=.cells #[.string E,.int .i64 A] 42 (0,0)) bk):af≠aG));have f7:=zaa.mk ((by rw[hg];exact Nat.ne_of_gt (zaW (g:=af) (o:=.cells #[.string E,.int .i64 A] 42 (0,0)) bk):aG≠af));have dt:=zaa.mk ((by rw[hg];exact Nat.ne_of_lt (zaW (g:=aj) (o:=.cells #[.string B,.int .i64 D] 42 (0,0)) bk):aj≠aG));have du:=zaa.mk ((by rw[hg];exact Nat.ne_of_gt (zaW (g:=aj) (o:=.cells #[.string B,.int .i64 D] 42 (0,0)) bk):aG≠aj));have dv:=zaa.mk ((by rw[hg];exact Nat.ne_of_lt (zaW (g:=ai) (o:=.cells #[.string (⟨#[]⟩:ByteArray),.int .i64 0] 42 (0,0)) bk):ai≠aG));have dx:=zaa.mk ((by rw[hg];exact Nat.ne_of_gt (zaW (g:=ai) (o:=.cells #[.string (⟨#[]⟩:ByteArray),.int .i64 0] 42 (0,0)) bk):aG≠ai));clear U;clear J;clear K;clear M;clear HB;have U:=an;have J:=ao;have K:=ap;have M:=ar;have HB:=au;have cZ:=f3;have iq:=f4;have ir:=f5;have bR:=f6;have bS:=f7;have bU:=dt;have bV:=du;have aM:=dv;have aN:=dx;clear an ao ap ar au f3 f4 f5 f6 f7 dt du dv dx;clear hb hbox hg;have gu:=bS.out;have gv:=bR.out;have gw:=bV.out;have gx:=bU.out;have gy:=aN.out;have gA:=aM.out;obtain⟨ef,eg,eh,ei⟩:=cz2 cZ))
          (try simp only[Act.put,List.setIfInBounds_toArray,List.set_cons_zero,List.set_cons_succ])
          by_cases bZ:(bQ.size:Int)>2000
          ·replace H:=hE H bZ
           have b3:decide (2000<(bQ.size:Int))=true:=decide_eq_true bZ
           have b4:decide (2000<bQ.size)=true:=decide_eq_true (by omega)
           clear bZ
           try first|rw[b3]|rw[b4]
           obtain⟨rfl,rfl,rfl⟩:=o3 H
           have gC:=Z.out
           have gD:=Y.out
           have gE:=ae.out
           have gF:=ad.out
           have gH:=aM.out
           have gI:=aN.out
           obtain⟨ej,ek,em,en⟩:=cz2 M
           go_wp2
           refine bodyPost_ret (zaK rfl _ _ ai 42 #[.string (⟨#[]⟩:ByteArray),.int .i64 0] (0,0) _ rfl bk Tryz.underlying42 rfl (by kernel_rfl)) rfl ?_
           exact⟨by first|exact ez|(simp only[←bo,←bp];exact ez),bz⟩
          replace H:=hN H bZ
          have b3:decide (2000<(bQ.size:Int))=false:=decide_eq_false bZ
          have b4:decide (2000<bQ.size)=false:=decide_eq_false (by omega)
          clear bZ
          try first|rw[b3]|rw[b4]
          obtain⟨rfl,rfl,rfl⟩:=o3 H
          have gJ:=bS.out
          have gK:=bR.out
          have gL:=bV.out
          have gM:=bU.out
          have gO:=aN.out
          have gP:=aM.out
          obtain⟨eo,ep,eq,er⟩:=cz2 cZ
          have gQ:=Z.out
          have gR:=Y.out
          have gS:=ae.out
          have gT:=ad.out
          obtain⟨et,eu,ev,ew⟩:=cz2 M
          go_wp2
          refine bodyPost_ret (zaK rfl _ _ ai 42 #[.string bQ,.int .i64 ds] (0,0) _ rfl bk Tryz.underlying42 rfl (by kernel_rfl)) rfl ?_
          exact⟨by first|exact ez|(simp only[←bo,←bp];exact ez),bz⟩
         replace H:=hE H cw
         have dJ:decide (0≤I)=true:=decide_eq_true cw
         clear cw
         obtain⟨fw,H⟩:=hG H
         have h5:=decide_eq_true fw
         clear fw
         obtain⟨fx,H⟩:=hG H
         have dK:=decide_eq_true fx
         (try(have ci:=dK;(first|rw[al] at ci|rw[aa] at ci|rw[O] at ci);skip))
         clear fx
         by_cases cx:(wrap64 ((wrap64 (I-1))-(wrap64 (A-D))))≥0
         case neg=>
          replace H:=hN H cx
          have cO:decide (0≤(wrap64 ((wrap64 (I-1))-(wrap64 (A-D)))))=false:=decide_eq_false cx
          clear cx
          obtain⟨cW,bP⟩: ∃y_:List Int,y_=(ac.set (I:Int).toNat (48+((((((rd ac I)-48)%256)+ak)%256)%10))):=⟨_,rfl⟩
          replace H:(zan.l1 k4 cW ((((((rd ac I)-48)%256)+ak)%256) / 10) (wrap64 (I-1)) E A B D)=some (r1,r2,r3):=by first|(rw[bP];with_reducible exact H)|(have aw:=(Option.bind_some _ _).symm.trans H;rw[bP];with_reducible exact aw)|(have aw:=(Option.bind_some _ _).symm.trans H;with_reducible exact aw)|with_reducible exact H|(rw[bP];exact H)|exact H
          have dT:=zaa.mk bP
          clear bP
          have H':=zaa.mk H
          clear H
          have aD:0≤(I:Int):=od
          have aE:I<(ac.length:Int):=od
          obtain⟨cR,ca,aF⟩:=Kd.at_int (Kd.R_reads' U.out).2.2 I aD aE
          cases ca
          replace aD:=eq_true aD
          replace aE:=eq_true aE
          have il:=ag.out
          have im:=ah.out
          have io:=Y.out
          have ip:=Z.out
          obtain⟨dW,dY,dZ,d0⟩:=cz2 J
          have gj:=ad.out
          have gl:=ae.out
          obtain⟨d5,d6,d9,ea⟩:=cz2 K
          have dU:0≤(I:Int):=od
          have dV:(I:Int)<((ac.length:Int):Int):=od
          obtain⟨cX,iR,dn,dp,fZ,iS,dq⟩:=Kd.R_form U.out (by omega)
          (first|cases dn|(injection dn with ea_ en_ ec_;(first|subst ea_|(injection ea_ with ea_;subst ea_));subst ec_;clear en_))
          have f0:=zaa.mk dp
          have iT:=zaa.mk dq
          clear dp fZ dq
          (first|simp only[add_plain] at aF|skip)
          obtain⟨gm,gn⟩:=Kd.R_celln 0 U.out (I:Int) dU dV
          replace dU:=eq_true dU
          replace dV:=eq_true dV
          have b2:=Kd.R_putg U.out (I:Int) (48+((((((rd ac I)-48)%256)+ak)%256)%10))
          go_wp2_with (first|((with_reducible refine zb2 (t:=5) (p:=121) rfl ?_);(try(rw[zb5 wr];generalize av:World.drewN wr _=wr;have an:=zaa.mk (Kd.R_at av U.out);have ao:=zaa.mk (zbv av J.out);have ap:=zaa.mk (zbv av K.out);have ar:=zaa.mk (zbv av M.out);have au:=zaa.mk (zcy av HB.out);clear av U J K M HB;have U:=an;have J:=ao;have K:=ap;have M:=ar;have HB:=au;clear an ao ap ar au;(try(have b2:=Kd.R_putg U.out (I:Int) (48+((((((rd ac I)-48)%256)+ak)%256)%10))))));refine zbS (t:=5) (p:=121) (v:=?vo_w104) (w1:=(wr.setCell ⟨cX,(I:Int).toNat,none⟩ (.int .u8 (48+((((((rd ac I)-48)%256)+ak)%256)%10))))) ?hg ?ho ?hn ?hr ?_;(case ho=>rfl);(case hg=>rfl);(case hn=>rfl);(case hr=>first|(go_simp;done)|(go_simp;rfl));intro cY hw;have hg:wr.grownBy cY (some cX):=(by rw[hw];exact b2.2);have hp_:Kd.R (Kd.int .u8) 5 cY w.heap.size (fun _=>True) (.slice (some ⟨cX,0,none⟩) ac.length aA) cW:=(by rw[hw,dT.out];exact b2.1);clear b2;have an:=zaa.mk (hp_);have ao:=zaa.mk (zbb (g:=af) (o:=.cells #[.string E,.int .i64 A] 42 (0,0)) bk hg (Kd.R_ne U.out J.out (by decide)));have ap:=zaa.mk (zbb (g:=aj) (o:=.cells #[.string B,.int .i64 D] 42 (0,0)) bk hg (Kd.R_ne U.out K.out (by decide)));have ar:=zaa.mk (zbb (g:=ai) (o:=.cells #[.string (⟨#[]⟩:ByteArray),.int .i64 0] 42 (0,0)) bk hg (Kd.R_ne U.out M.out (by decide)));have au:=zaa.mk ((by rw[hw];exact zbt (HB.out) f0.out:Below w.heap.size w cY));clear U;clear J;clear K;clear M;clear HB;have U:=an;have J:=ao;have K:=ap;have M:=ar;have HB:=au;clear an ao ap ar au;clear hg hw hp_))
          (try simp only[←al])
          go_roundg k4
          case measure=>have:=bb.out;have:=b1.out;have:=bY.out;have:=cv.out;omega
          case rel=>exact⟨(cW),((((((rd ac I)-48)%256)+ak)%256) / 10),(wrap64 (I-1)),rz,rz,H',⟨by have:=bb.out;have:=b1.out;have:=bY.out;have:=cv.out;omega⟩,⟨by(try simp only[O]);(try simp only[aa]);(try simp only[al]);(with_reducible repeat(first|apply Kd.R_alloc|apply Kd.R_drewN|apply Kd.R_drew));exact U.out⟩,⟨by(try simp only[O]);(try simp only[aa]);(try simp only[al]);(with_reducible repeat(first|refine za2 ?_ _|refine zao ?_|refine za1 ?_ _));exact J.out⟩,⟨by(try simp only[O]);(try simp only[aa]);(try simp only[al]);(with_reducible repeat(first|refine za2 ?_ _|refine zao ?_|refine za1 ?_ _));exact K.out⟩,⟨by(try simp only[O]);(try simp only[aa]);(try simp only[al]);(with_reducible repeat(first|refine za2 ?_ _|refine zao ?_|refine za1 ?_ _));exact M.out⟩,⟨bz⟩⟩
         replace H:=hE H cx
         have cO:decide (0≤(wrap64 ((wrap64 (I-1))-(wrap64 (A-D)))))=true:=decide_eq_true cx
         clear cx
         by_cases cy:(wrap64 ((wrap64 (I-1))-(wrap64 (A-D))))<(B.size:Int)
         ·replace H:=hE H cy
          have cP:=decide_eq_true cy
          clear cy
          obtain⟨aH,be⟩:=ex (wrap64 ((wrap64 (I-1))-(wrap64 (A-D))))
          (first|rw[be] at H|simp only[be] at H)
          (try rw[be] at cO)
          (try rw[be] at cP)
          have ge:(IntKind.i64.wrap ((wrap64 (I-1))-(wrap64 (A-D))))=aH:=(zar _).trans be
          obtain⟨fy,H⟩:=hG H
          have h6:=decide_eq_true fy
          clear fy
          obtain⟨cQ,bM⟩: ∃y_:List Int,y_=(ac.set (I:Int).toNat (48+((((((((rd ac I)-48)%256)+ak)%256)+(((bt B (aH))-48)%256))%256)%10))):=⟨_,rfl⟩
          replace H:(zan.l1 k4 cQ ((((((((rd ac I)-48)%256)+ak)%256)+(((bt B (aH))-48)%256))%256) / 10) (wrap64 (I-1)) E A B D)=some (r1,r2,r3):=by first|(rw[bM];with_reducible exact H)|(have aw:=(Option.bind_some _ _).symm.trans H;rw[bM];with_reducible exact aw)|(have aw:=(Option.bind_some _ _).symm.trans H;with_reducible exact aw)|with_reducible exact H|(rw[bM];exact H)|exact H
          have dL:=zaa.mk bM
          clear bM
          have H':=zaa.mk H
          clear H
          have aD:0≤(I:Int):=od
          have aE:I<(ac.length:Int):=od
          obtain⟨cR,ca,aF⟩:=Kd.at_int (Kd.R_reads' U.out).2.2 I aD aE
          cases ca
          replace aD:=eq_true aD
          replace aE:=eq_true aE
          have h7:=ag.out
          have h8:=ah.out
          have h9:=Y.out
          have ia:=Z.out
          obtain⟨fz,fA,fC,fD⟩:=cz2 J
          have ib:=ad.out
          have ic:=ae.out
          obtain⟨fF,fG,fH,fI⟩:=cz2 K
          have fJ:0≤((aH):Int):=od
          have fK:(aH)<(B.size:Int):=od
          have iK:=zd2 B (aH)
          replace fJ:=eq_true fJ
          replace fK:=eq_true fK
          have dM:0≤(I:Int):=od
          have dN:(I:Int)<((ac.length:Int):Int):=od
          obtain⟨cS,iL,dh,di,fL,iM,dj⟩:=Kd.R_form U.out (by omega)
          (first|cases dh|(injection dh with ea_ en_ ec_;(first|subst ea_|(injection ea_ with ea_;subst ea_));subst ec_;clear en_))
          have fN:=zaa.mk di
          have iN:=zaa.mk dj
          clear di fL dj
          (first|simp only[add_plain] at aF|skip)
          obtain⟨gf,gg⟩:=Kd.R_celln 0 U.out (I:Int) dM dN
          replace dM:=eq_true dM
          replace dN:=eq_true dN
          have cr:=Kd.R_putg U.out (I:Int) (48+((((((((rd ac I)-48)%256)+ak)%256)+(((bt B (aH))-48)%256))%256)%10))
          go_wp2_with (first|((with_reducible refine zb2 (t:=5) (p:=121) rfl ?_);(try(rw[zb5 wr];generalize av:World.drewN wr _=wr;have an:=zaa.mk (Kd.R_at av U.out);have ao:=zaa.mk (zbv av J.out);have ap:=zaa.mk (zbv av K.out);have ar:=zaa.mk (zbv av M.out);have au:=zaa.mk (zcy av HB.out);clear av U J K M HB;have U:=an;have J:=ao;have K:=ap;have M:=ar;have HB:=au;clear an ao ap ar au;(try(have cr:=Kd.R_putg U.out (I:Int) (48+((((((((rd ac I)-48)%256)+ak)%256)+(((bt B (aH))-48)%256))%256)%10))))));refine zbS (t:=5) (p:=121) (v:=?vo_w88) (w1:=(wr.setCell ⟨cS,(I:Int).toNat,none⟩ (.int .u8 (48+((((((((rd ac I)-48)%256)+ak)%256)+(((bt B (aH))-48)%256))%256)%10))))) ?hg ?ho ?hn ?hr ?_;(case ho=>rfl);(case hg=>rfl);(case hn=>rfl);(case hr=>first|(go_simp;done)|(go_simp;rfl));intro dO hw;have hg:wr.grownBy dO (some cS):=(by rw[hw];exact cr.2);have hp_:Kd.R (Kd.int .u8) 5 dO w.heap.size (fun _=>True) (.slice (some ⟨cS,0,none⟩) ac.length aA) cQ:=(by rw[hw,dL.out];exact cr.1);clear cr;have an:=zaa.mk (hp_);have ao:=zaa.mk (zbb (g:=af) (o:=.cells #[.string E,.int .i64 A] 42 (0,0)) bk hg (Kd.R_ne U.out J.out (by decide)));have ap:=zaa.mk (zbb (g:=aj) (o:=.cells #[.string B,.int .i64 D] 42 (0,0)) bk hg (Kd.R_ne U.out K.out (by decide)));have ar:=zaa.mk (zbb (g:=ai) (o:=.cells #[.string (⟨#[]⟩:ByteArray),.int .i64 0] 42 (0,0)) bk hg (Kd.R_ne U.out M.out (by decide)));have au:=zaa.mk ((by rw[hw];exact zbt (HB.out) fN.out:Below w.heap.size w dO));clear U;clear J;clear K;clear M;clear HB;have U:=an;have J:=ao;have K:=ap;have M:=ar;have HB:=au;clear an ao ap ar au;clear hg hw hp_))
          (try simp only[←al])
          go_roundg k4
          case measure=>have:=bb.out;have:=b1.out;have:=bY.out;have:=cv.out;omega
          case rel=>exact⟨(cQ),((((((((rd ac I)-48)%256)+ak)%256)+(((bt B (aH))-48)%256))%256) / 10),(wrap64 (I-1)),(by first|rfl|(simp;done)|(simp only[←be]<;>(first|rfl|simp))|(simp[*];done)),rz,H',⟨by have:=bb.out;have:=b1.out;have:=bY.out;have:=cv.out;omega⟩,⟨by(try simp only[O]);(try simp only[aa]);(try simp only[al]);(with_reducible repeat(first|apply Kd.R_alloc|apply Kd.R_drewN|apply Kd.R_drew));exact U.out⟩,⟨by(try simp only[O]);(try simp only[aa]);(try simp only[al]);(with_reducible repeat(first|refine za2 ?_ _|refine zao ?_|refine za1 ?_ _));exact J.out⟩,⟨by(try simp only[O]);(try simp only[aa]);(try simp only[al]);(with_reducible repeat(first|refine za2 ?_ _|refine zao ?_|refine za1 ?_ _));exact K.out⟩,⟨by(try simp only[O]);(try simp only[aa]);(try simp only[al]);(with_reducible repeat(first|refine za2 ?_ _|refine zao ?_|refine za1 ?_ _));exact M.out⟩,⟨bz⟩⟩
         replace H:=hN H cy
         have cP:=decide_eq_false cy
         clear cy
         obtain⟨cT,bO⟩: ∃y_:List Int,y_=(ac.set (I:Int).toNat (48+((((((rd ac I)-48)%256)+ak)%256)%10))):=⟨_,rfl⟩
         replace H:(zan.l1 k4 cT ((((((rd ac I)-48)%256)+ak)%256) / 10) (wrap64 (I-1)) E A B D)=some (r1,r2,r3):=by first|(rw[bO];with_reducible exact H)|(have aw:=(Option.bind_some _ _).symm.trans H;rw[bO];with_reducible exact aw)|(have aw:=(Option.bind_some _ _).symm.trans H;with_reducible exact aw)|with_reducible exact H|(rw[bO];exact H)|exact H
         have dP:=zaa.mk bO
         clear bO
         have H':=zaa.mk H
         clear H
         have aD:0≤(I:Int):=od
         have aE:I<(ac.length:Int):=od
         obtain⟨cR,ca,aF⟩:=Kd.at_int (Kd.R_reads' U.out).2.2 I aD aE
         cases ca
         replace aD:=eq_true aD
         replace aE:=eq_true aE
         have id:=ag.out
         have ie:=ah.out
         have ig:=Y.out
         have ih:=Z.out
         obtain⟨fO,fP,fQ,fR⟩:=cz2 J
         have ij:=ad.out
         have ik:=ae.out
         obtain⟨fS,fT,fU,fV⟩:=cz2 K
         have dQ:0≤(I:Int):=od
         have dR:(I:Int)<((ac.length:Int):Int):=od
         obtain⟨cV,iO,dk,dl,fX,iP,dm⟩:=Kd.R_form U.out (by omega)
         (first|cases dk|(injection dk with ea_ en_ ec_;(first|subst ea_|(injection ea_ with ea_;subst ea_));subst ec_;clear en_))
         have fY:=zaa.mk dl
         have iQ:=zaa.mk dm
         clear dl fX dm
         (first|simp only[add_plain] at aF|skip)
         obtain⟨gh,gi⟩:=Kd.R_celln 0 U.out (I:Int) dQ dR
         replace dQ:=eq_true dQ
         replace dR:=eq_true dR
         have ct:=Kd.R_putg U.out (I:Int) (48+((((((rd ac I)-48)%256)+ak)%256)%10))
         go_wp2_with (first|((with_reducible refine zb2 (t:=5) (p:=121) rfl ?_);(try(rw[zb5 wr];generalize av:World.drewN wr _=wr;have an:=zaa.mk (Kd.R_at av U.out);have ao:=zaa.mk (zbv av J.out);have ap:=zaa.mk (zbv av K.out);have ar:=zaa.mk (zbv av M.out);have au:=zaa.mk (zcy av HB.out);clear av U J K M HB;have U:=an;have J:=ao;have K:=ap;have M:=ar;have HB:=au;clear an ao ap ar au;(try(have ct:=Kd.R_putg U.out (I:Int) (48+((((((rd ac I)-48)%256)+ak)%256)%10))))));refine zbS (t:=5) (p:=121) (v:=?vo_w96) (w1:=(wr.setCell ⟨cV,(I:Int).toNat,none⟩ (.int .u8 (48+((((((rd ac I)-48)%256)+ak)%256)%10))))) ?hg ?ho ?hn ?hr ?_;(case ho=>rfl);(case hg=>rfl);(case hn=>rfl);(case hr=>first|(go_simp;done)|(go_simp;rfl));intro dS hw;have hg:wr.grownBy dS (some cV):=(by rw[hw];exact ct.2);have hp_:Kd.R (Kd.int .u8) 5 dS w.heap.size (fun _=>True) (.slice (some ⟨cV,0,none⟩) ac.length aA) cT:=(by rw[hw,dP.out];exact ct.1);clear ct;have an:=zaa.mk (hp_);have ao:=zaa.mk (zbb (g:=af) (o:=.cells #[.string E,.int .i64 A] 42 (0,0)) bk hg (Kd.R_ne U.out J.out (by decide)));have ap:=zaa.mk (zbb (g:=aj) (o:=.cells #[.string B,.int .i64 D] 42 (0,0)) bk hg (Kd.R_ne U.out K.out (by decide)));have ar:=zaa.mk (zbb (g:=ai) (o:=.cells #[.string (⟨#[]⟩:ByteArray),.int .i64 0] 42 (0,0)) bk hg (Kd.R_ne U.out M.out (by decide)));have au:=zaa.mk ((by rw[hw];exact zbt (HB.out) fY.out:Below w.heap.size w dS));clear U;clear J;clear K;clear M;clear HB;have U:=an;have J:=ao;have K:=ap;have M:=ar;have HB:=au;clear an ao ap ar au;clear hg hw hp_))
         (try simp only[←al])
         go_roundg k4
         case measure=>have:=bb.out;have:=b1.out;have:=bY.out;have:=cv.out;omega
         case rel=>exact⟨(cT),((((((rd ac I)-48)%256)+ak)%256) / 10),(wrap64 (I-1)),rz,rz,H',⟨by have:=bb.out;have:=b1.out;have:=bY.out;have:=cv.out;omega⟩,⟨by(try simp only[O]);(try simp only[aa]);(try simp only[al]);(with_reducible repeat(first|apply Kd.R_alloc|apply Kd.R_drewN|apply Kd.R_drew));exact U.out⟩,⟨by(try simp only[O]);(try simp only[aa]);(try simp only[al]);(with_reducible repeat(first|refine za2 ?_ _|refine zao ?_|refine za1 ?_ _));exact J.out⟩,⟨by(try simp only[O]);(try simp only[aa]);(try simp only[al]);(with_reducible repeat(first|refine za2 ?_ _|refine zao ?_|refine za1 ?_ _));exact K.out⟩,⟨by(try simp only[O]);(try simp only[aa]);(try simp only[al]);(with_reducible repeat(first|refine za2 ?_ _|refine zao ?_|refine za1 ?_ _));exact M.out⟩,⟨bz⟩⟩
end
end Go.Proofs.YtecpgdfnamkfdaaGreatDoor.Fn
end
section
namespace Go.Proofs.YtecpgdfnamkfdaaGreatDoor.Fn
open Go.RowKit Go.Proofs.YtecpgdfnamkfdaaGreatDoorW.PrintWords
def Bts(w:World)(e:TypeId)(g:Nat)(xs:List Int):Prop:=
  ∃cur lo hi,w.heap[g]? =some (.cells cur e (lo,hi))∧xs.length≤cur.size∧cur.size≤lo∧cur.toList.take xs.length=nums .u8 xs
theorem Bts.made(w:World)(e:TypeId)(s:ByteArray):Bts (Lib.bytesWorld w e s) e w.heap.size (bytesOf s):=by
  have hb:s.size≤(Lib.bytesCells w e s).size:=by
    unfold Lib.bytesCells
    rw[Array.size_append,Array.size_map]
    exact Nat.le_add_right _ _
  refine⟨_,_,_,Lib.bytesWorld_at_new w e s,by rw[bytesOf_length];exact hb,Nat.le_refl _,?_⟩
  rw[bytesOf_length]
  unfold Lib.bytesCells
  rw[Array.toList_append,List.take_append_of_le_length (by rw[Array.length_toList,Array.size_map];exact Nat.le_refl _),List.take_of_length_le (by rw[Array.length_toList,Array.size_map];exact Nat.le_refl _)]
  simp[nums,bytesOf]
theorem Bts.cell{w:World}{e:TypeId}{g:Nat}{xs:List Int}(h:Bts w e g xs)(i:Nat)(hi:i<xs.length):w.cell? ⟨g,i,none⟩=some (.int .u8 (rd xs i)):=by
  obtain⟨cur,lo,hi',hg,hl,_,ht⟩:=h
  rw[cell_of_row w g i cur e (lo,hi') hg]
  have h2:(cur.toList.take xs.length)[i]? =(nums .u8 xs)[i]? :=by rw[ht]
  rw[List.getElem?_take_of_lt hi,Array.getElem?_toList] at h2
  rw[h2]
  simp[nums,rd,List.getElem?_eq_getElem hi,List.getD_eq_getElem?_getD]
theorem Bts.free{w:World}{e:TypeId}{g:Nat}{xs:List Int}(h:Bts w e g xs)(i:Nat)(hi:i<xs.length):w.frozen? ⟨g,i,none⟩=false:=by
  obtain⟨cur,lo,hi',hg,hl,hlo,_⟩:=h
  simp[World.frozen?,hg]
  omega
theorem Bts.set{w:World}{e:TypeId}{g:Nat}{xs:List Int}(h:Bts w e g xs)(i:Nat)(y:Int):Bts (w.setCell ⟨g,i,none⟩ (.int .u8 y)) e g (xs.set i y):=by
  obtain⟨cur,lo,hi',hg,hl,hlo,ht⟩:=h
  refine⟨cur.setIfInBounds i (.int .u8 y),lo,hi',?_,by simpa using hl,by simpa using hlo,?_⟩
  · have hlt:g<w.heap.size:=(Array.getElem?_eq_some_iff.1 hg).1
    have hv:w.heap[g]= .cells cur e (lo,hi'):=(Array.getElem?_eq_some_iff.1 hg).2
    unfold World.setCell
    rw[Array.getElem?_eq_getElem (by simpa using hlt),Array.getElem_modify]
    simp[hv]
  · rw[List.length_set,Array.toList_setIfInBounds,List.take_set,ht]
    simp[nums,List.map_set]
theorem Bts.text{P:Program}{w:World}{e src dst:TypeId}{g cap:Nat}{xs:List Int}(h:Bts w e g xs)(hs:P.underlying src=some (.slice e))(he:P.underlying e=some (.int .u8))(hd:P.underlying dst=some .string):
    (convert src dst (.slice (some ⟨g,0,none⟩) xs.length cap)).run P w= .ok (.string (strOfNums xs)) w:=
  run_convert_bytes_arg w src e hs he g 0 xs.length cap xs rfl (fun i hi=>by
    have:=h.cell i hi
    rw[Nat.zero_add]
    exact this) dst hd
end Go.Proofs.YtecpgdfnamkfdaaGreatDoor.Fn
end
section
namespace Go.Proofs.YtecpgdfnamkfdaaGreatDoor.Fn
open Go.RowKit Go.Proofs.YtecpgdfnamkfdaaGreatDoorW.PrintWords
set_option linter.unusedVariables false
set_option linter.unusedSimpArgs false
def upGo(xs:List Int):Nat→List Int
  |0=>49::xs
  |j+1=>if rd xs j<57 then xs.set j (rd xs j+1) else upGo (xs.set j 48) j
def zby.f(s:ByteArray):Option ByteArray:=if s.size≤100000 then some (strOfNums (upGo (bytesOf s) s.size)) else none
theorem ziu{xs:List Int}(h: ∀x∈xs,0≤x)(j:Nat)(y:Int)(hy:0≤y): ∀x∈xs.set j y,0≤x:=by
  intro x hx
  rcases List.mem_or_eq_of_mem_set hx with h1|h1
  · exact h x h1
  · rw[h1];exact hy
theorem zjc{xs:List Int}(h: ∀x∈xs,0≤x)(i:Int):0≤rd xs i:=by
  unfold rd
  rw[List.getD_eq_getElem?_getD]
  cases hg:xs[i.toNat]? with
  |none=>simp
  |some x=>exact h x (List.mem_of_getElem? hg)
theorem zgR(xs:List Int):(⟨#[49]⟩:ByteArray)++strOfNums xs=strOfNums (49::xs):=by
  apply ByteArray.ext
  rw[ByteArray.data_append]
  simp[strOfNums]
set_option maxHeartbeats 4000000 in
set_option maxRecDepth 100000 in
theorem zby.calls(a0 r:ByteArray)(w:World)(h:zby.f a0=some r):
    Calls Tryz.prog 81 #[.string a0] w fun e w'=>e= .returned (.string r)∧Below w.heap.size w w':=by
  unfold zby.f at h
  split at h
  case isFalse=>cases h
  rename_i hsz
  obtain rfl:=Option.some.inj h
  clear h
  have kc:=fun W=>zdD (P:=Tryz.prog) 9 51 5 Tryz.underlying9 Tryz.underlying51 Tryz.underlying5 a0 W
  have HM:=zaa.mk (Bts.made w 5 a0)
  have HB:=zaa.mk (zcR (Below.refl w.heap.size w) (Nat.le_refl _) 5 a0)
  have hlen:(bytesOf a0).length=a0.size:=bytesOf_length a0
  have hpos: ∀x∈bytesOf a0,0≤x:=by
    intro x hx
    simp only[bytesOf,List.mem_map] at hx
    obtain⟨b,_,rfl⟩:=hx
    omega
  have HP:=zaa.mk hpos
  have HL:=zaa.mk hlen
  clear hpos hlen
  go_enter Tryz.func81,Tryz.ntmps81
  go_wp2
  clear kc
  generalize grownCap w a0.size 0 5=cap
  generalize J:Lib.bytesWorld w 5 a0=w1 at HM HB ⊢
  clear J
  go_loopw [4] (fun i wr=> ∃(j:Nat) (xs:List Int),j≤a0.size∧i= .int .i64 ((j:Int)-1)∧zaa (xs.length=a0.size)∧zaa (∀x∈xs,0≤x)∧zaa (upGo xs j=upGo (bytesOf a0) a0.size)∧zaa (Bts wr 5 w.heap.size xs)∧zaa (Below w.heap.size w wr)) (fun i _=>(intOf i+1).toNat)
  case atStart=>exact⟨a0.size,bytesOf a0,Nat.le_refl _,rfl,HL,HP,⟨rfl⟩,HM,HB⟩
  case round=>
    obtain⟨j,xs,hj,rfl,B,I,HU,A,D⟩:=hrel
    cases j with
    |zero=>
      have ht:=A.out.text (P:=Tryz.prog) (src:=51) (dst:=9) (cap:=cap) Tryz.underlying51 Tryz.underlying5 Tryz.underlying9
      rw[B.out] at ht
      have K:1+(strOfNums xs).size≤9223372036854775807:=by rw[strOfNums_size,B.out];omega
      go_wp2
      go_ret
      refine⟨?_,D.out⟩
      rw[zgR,←HU.out]
      rfl
    |succ m=>
      have hm:m<a0.size:=hj
      have hml:m<xs.length:=by rw[B.out];exact hm
      have hc:=A.out.cell m hml
      have hf:=A.out.free m hml
      have hx:=zjc I.out (m:Int)
      rw[show(((m+1:Nat):Int)-1)=(m:Int) by omega]
      have HU':zaa ((if rd xs m<57 then xs.set m (rd xs m+1) else upGo (xs.set m 48) m)=upGo (bytesOf a0) a0.size):=⟨HU.out⟩
      by_cases hlt:rd xs m<57
      · have hS:=A.out.set m (rd xs m+1)
        have HS:=zaa.mk hS
        have E:=zaa.mk ((if_pos hlt).symm.trans HU'.out)
        clear hS HU'
        have ht:=HS.out.text (P:=Tryz.prog) (src:=51) (dst:=9) (cap:=cap) Tryz.underlying51 Tryz.underlying5 Tryz.underlying9
        rw[List.length_set,B.out] at ht
        have HBB:=zaa.mk (zbt D.out (Nat.le_refl _):Below w.heap.size w (wr.setCell ⟨w.heap.size,m,none⟩ (.int .u8 (rd xs m+1))))
        generalize rd xs m=x at*
        clear A
        go_wp2
        go_ret
        refine⟨?_,HBB.out⟩
        rw[E.out]
        rfl
      · have E:=zaa.mk ((if_neg hlt).symm.trans HU'.out)
        clear HU'
        go_wp2
        go_roundw
        case rel=>exact⟨m,xs.set m 48,by omega,by go_num,⟨by rw[List.length_set];exact B.out⟩,⟨ziu I.out m 48 (by omega)⟩,E,⟨A.out.set m 48⟩,⟨zbt D.out (Nat.le_refl _)⟩⟩
        case measure=>simp[intOf]
end Go.Proofs.YtecpgdfnamkfdaaGreatDoor.Fn
end
section
namespace Go.Proofs.YtecpgdfnamkfdaaGreatDoor.Fn
open Go.RowKit Go.Proofs.YtecpgdfnamkfdaaGreatDoorW.PrintWords Go.Proofs.YtecpgdfnamkfdaaGreatDoorW.PrintLast Go.Proofs.YtecpgdfnamkfdaaGreatDoorW.PrintMore
set_option linter.unusedVariables false
set_option linter.unusedSimpArgs false
set_option maxHeartbeats 8000000
set_option maxRecDepth 100000
section
attribute [local go_sem] fnW_0 fnW_1 fnW_2 fnW_3 fnW_4 fnW_5 fnW_guard fnW_eql zaD zaE zaI zaJ
mutual
def zaA.j0:Nat→Int→ByteArray→ByteArray→Bool→ByteArray→Int→Option (ByteArray×Int)
 |0,_,_,_,_,_,_=>none
 |k+1,x1,x5,x6,x7,A,B=>if(Op.bytesLess x6.toList ([53]:List UInt8))=true then(zaA.j1 k x1 x5 true A B) else(if x6.toList=([53]:List UInt8) then(zaA.j1 k x1 x5 (!x7) A B) else(zaA.j1 k x1 x5 false A B))
def zaA.j1:Nat→Int→ByteArray→Bool→ByteArray→Int→Option (ByteArray×Int)
 |0,_,_,_,_,_=>none
 |k+1,x1,x5,J,I,A=>if J=true then((zaS.f x5 A).bind fun B=>(some (B.1,B.2))) else((zby.f x5).bind fun E=>((zaS.f E (wrap64 ((wrap64 (A+(E.size:Int)))-x1))).bind fun D=>(some (D.1,D.2))))
end
def zaA.f(k:Nat)(A:ByteArray)(B:Int)(a1:Int):Option (ByteArray×Int):=if a1<0 then(some ((⟨#[]⟩:ByteArray),0)) else(if a1≥(A.size:Int) then(some (A,B)) else(if 0≤a1 then(if a1≤(A.size:Int) then(if a1>0 then(if 0≤(wrap64 (a1-1)) then(if(wrap64 (a1-1))<((A.extract 0 (a1:Int).toNat).size:Int) then(zaA.j0 k a1 (A.extract 0 (a1:Int).toNat) (A.extract (a1:Int).toNat A.size) (((((bt (A.extract 0 (a1:Int).toNat) (wrap64 (a1-1)))-48)%256)%2)==1) A B) else(none)) else(none)) else(zaA.j0 k a1 (A.extract 0 (a1:Int).toNat) (A.extract (a1:Int).toNat A.size) false A B)) else(none)) else(none)))
theorem zaA.calls(k:Nat)(A:ByteArray)(E:Int)(a1:Int)(r1:ByteArray)(r2:Int)(w:World)(h:zaA.f k A E a1=some (r1,r2)):
  Calls Tryz.prog 51 #[.agg #[.string A,.int .i64 E],.int .i64 a1] w fun e w'=>e= .returned (.agg #[.string r1,.int .i64 r2])∧Below w.heap.size w w':=by
 have bR:=Tryz.underlying42
 have HB:=zaa.mk (Below.refl w.heap.size w)
 have H:(if a1<0 then(some ((⟨#[]⟩:ByteArray),0)) else(if a1≥(A.size:Int) then(some (A,E)) else(if 0≤a1 then(if a1≤(A.size:Int) then(if a1>0 then(if 0≤(wrap64 (a1-1)) then(if(wrap64 (a1-1))<((A.extract 0 (a1:Int).toNat).size:Int) then(zaA.j0 k a1 (A.extract 0 (a1:Int).toNat) (A.extract (a1:Int).toNat A.size) (((((bt (A.extract 0 (a1:Int).toNat) (wrap64 (a1-1)))-48)%256)%2)==1) A E) else(none)) else(none)) else(zaA.j0 k a1 (A.extract 0 (a1:Int).toNat) (A.extract (a1:Int).toNat A.size) false A E)) else(none)) else(none))))=some (r1,r2):=h
 clear h
 go_enter Tryz.func51,Tryz.ntmps51
 go_upto_if 9 with(first|((with_reducible refine zah (N:=2) rfl ?_);refine zag rfl (N:=2) rfl (cs:=#[.string A,.int .i64 E]) (t:=42) gz ?_;intro B hg w3 hbox hb;have aI:=gN bz hg;have aJ:=gN bz hg;have D:=zaa.mk hbox;replace HB:=bN bz hb;clear hb hbox hg)|((with_reducible refine zah (N:=4) rfl ?_);refine zag rfl (N:=4) rfl (cs:=#[.string (⟨#[]⟩:ByteArray),.int .i64 0]) (t:=42) gz ?_;intro J hg w4 hbox hb;have aK:=gN bz hg;have aL:=gN bz hg;have K:=lN (g:=B) (cs:=#[.string A,.int .i64 E]) hg bk;have M:=rN (g:=B) (cs:=#[.string A,.int .i64 E]) hg bk;replace D:=kN (g:=B) (cs:=#[.string A,.int .i64 E]) hb bk;have I:=zaa.mk hbox;replace HB:=bN bz hb;clear hb hbox hg))
 repeat(go_quiet (first|((with_reducible refine zah (N:=2) rfl ?_);refine zag rfl (N:=2) rfl (cs:=#[.string A,.int .i64 E]) (t:=42) gz ?_;intro B hg w3 hbox hb;have O:=bN bz hb;have U:=zaa.mk (hbox);have X:=zaa.mk ((by rw[hg];exact(zaG bz):w.heap.size≤B));have aa:=zaa.mk ((by rw[hg];exact(zaG bz):w.heap.size≤B));clear HB;have HB:=O;have D:=U;have aI:=X;have aJ:=aa;clear O U X aa;clear hb hbox hg)|((with_reducible refine zah (N:=4) rfl ?_);refine zag rfl (N:=4) rfl (cs:=#[.string (⟨#[]⟩:ByteArray),.int .i64 0]) (t:=42) gz ?_;intro J hg w4 hbox hb;have O:=kN (g:=B) (cs:=#[.string A,.int .i64 E]) hb bk;have U:=bN bz hb;have X:=zaa.mk (hbox);have aa:=zaa.mk ((by rw[hg];exact(zaG bz):w.heap.size≤J));have aM:=zaa.mk ((by rw[hg];exact(zaG bz):w.heap.size≤J));have aN:=zaa.mk ((by rw[hg];exact Nat.ne_of_lt (zaW (g:=B) (o:=.cells #[.string A,.int .i64 E] 42 (0,0)) bk):B≠J));have aO:=zaa.mk ((by rw[hg];exact Nat.ne_of_gt (zaW (g:=B) (o:=.cells #[.string A,.int .i64 E] 42 (0,0)) bk):J≠B));clear D;clear HB;have D:=O;have HB:=U;have I:=X;have aK:=aa;have aL:=aM;have K:=aN;have M:=aO;clear O U X aa aM aN aO;clear hb hbox hg));go_upto_if 9 with(first|((with_reducible refine zah (N:=2) rfl ?_);refine zag rfl (N:=2) rfl (cs:=#[.string A,.int .i64 E]) (t:=42) gz ?_;intro B hg w3 hbox hb;have O:=bN bz hb;have U:=zaa.mk (hbox);have X:=zaa.mk ((by rw[hg];exact(zaG bz):w.heap.size≤B));have aa:=zaa.mk ((by rw[hg];exact(zaG bz):w.heap.size≤B));clear HB;have HB:=O;have D:=U;have aI:=X;have aJ:=aa;clear O U X aa;clear hb hbox hg)|((with_reducible refine zah (N:=4) rfl ?_);refine zag rfl (N:=4) rfl (cs:=#[.string (⟨#[]⟩:ByteArray),.int .i64 0]) (t:=42) gz ?_;intro J hg w4 hbox hb;have O:=kN (g:=B) (cs:=#[.string A,.int .i64 E]) hb bk;have U:=bN bz hb;have X:=zaa.mk (hbox);have aa:=zaa.mk ((by rw[hg];exact(zaG bz):w.heap.size≤J));have aM:=zaa.mk ((by rw[hg];exact(zaG bz):w.heap.size≤J));have aN:=zaa.mk ((by rw[hg];exact Nat.ne_of_lt (zaW (g:=B) (o:=.cells #[.string A,.int .i64 E] 42 (0,0)) bk):B≠J));have aO:=zaa.mk ((by rw[hg];exact Nat.ne_of_gt (zaW (g:=B) (o:=.cells #[.string A,.int .i64 E] 42 (0,0)) bk):J≠B));clear D;clear HB;have D:=O;have HB:=U;have I:=X;have aK:=aa;have aL:=aM;have K:=aN;have M:=aO;clear O U X aa aM aN aO;clear hb hbox hg)))
 (try simp only[Act.put,List.setIfInBounds_toArray,List.set_cons_zero,List.set_cons_succ])
 by_cases c5:a1<0
 ·replace H:=hE H c5
  have ae:=decide_eq_true c5
  clear c5
  try rw[ae]
  obtain⟨rfl,rfl⟩:=o2 H
  have bS:=M.out
  have bU:=K.out
  obtain⟨bC,bD,bE,bG⟩:=cz2 I
  go_wp2
  repeat(go_quiet (fail);try go_wp2)
  refine bodyPost_ret (results_cell_row rfl _ _ J 42 #[.string (⟨#[]⟩:ByteArray),.int .i64 0] (0,0) _ rfl bk Tryz.underlying42 rfl (by kernel_rfl)) rfl ?_
  exact⟨ez,bz⟩
 replace H:=hN H c5
 have ae:=decide_eq_false c5
 clear c5
 try rw[ae]
 by_cases c8:a1≥(A.size:Int)
 ·replace H:=hE H c8
  have aP:decide ((A.size:Int)≤a1)=true:=decide_eq_true c8
  clear c8
  obtain⟨rfl,rfl⟩:=o2 H
  have bV:=K.out
  have bW:=M.out
  obtain⟨bd,be,bf,bg⟩:=cz2 D
  obtain⟨bh,bi,bj,bl⟩:=cz2 I
  go_wp2
  repeat(go_quiet (fail);try go_wp2)
  refine bodyPost_ret (results_cell_row rfl _ _ J 42 #[.string A,.int .i64 E] (0,0) _ rfl bk Tryz.underlying42 rfl (by kernel_rfl)) rfl ?_
  exact⟨ez,bz⟩
 replace H:=hN H c8
 have aP:decide ((A.size:Int)≤a1)=false:=decide_eq_false c8
 clear c8
 by_cases aQ:0≤a1
 case neg=>
  replace H:=hN H aQ
  exact absurd H (by simp)
 obtain⟨aR,aS,H⟩:=hE3 H aQ
 clear aQ
 obtain⟨aT,aU,H⟩:=hG3 H
 have aV:=eq_true (od:0≤a1)
 have aW:=eq_true (od:a1≤(A.size:Int))
 have aX:=zaa.mk H
 clear H
 have bI:=K.out
 have bJ:=M.out
 obtain⟨af,ag,ah,ai⟩:=cz2 D
 go_upto_region 6 with(fail)
 repeat(go_quiet (fail);go_upto_region 6 with(fail))
 go_cut [7] (fun v7 wc=> ∃(kq:Nat) (ac:Bool),v7= .bool ac∧zaa (zaA.j0 kq a1 (A.extract 0 (a1:Int).toNat) (A.extract (a1:Int).toNat A.size) ac A E=some (r1,r2))∧zaa (kq≤k)∧zaa (wc.heap[B]? =some (.cells #[.string A,.int .i64 E] 42 (0,0)))∧zaa (wc.heap[J]? =some (.cells #[.string (⟨#[]⟩:ByteArray),.int .i64 0] 42 (0,0)))∧zaa (Below w.heap.size w wc))
 case first=>
  have H:=aX.out
  clear aX
  by_cases aG:a1>0
  case neg=>
   replace H:=hN H aG
   have az:decide (0<a1)=false:=decide_eq_false aG
   clear aG
   try rw[az]
   have H':=zaa.mk H
   clear H
   go_wp2
   repeat(go_quiet (fail);try go_wp2)
   go_meet
   case rel=>exact⟨_,(false),rz,H',⟨by first|omega|exact Nat.le_refl _⟩,⟨bk⟩,⟨bk⟩,⟨bz⟩⟩
  replace H:=hE H aG
  have az:decide (0<a1)=true:=decide_eq_true aG
  clear aG
  try rw[az]
  obtain⟨ab,ad⟩:=ex (wrap64 (a1-1))
  (first|rw[ad] at H|simp only[ad] at H)
  have bH:(IntKind.i64.wrap (a1-1))=ab:=(zar _).trans ad
  obtain⟨bm,H⟩:=hG H
  have bK:=decide_eq_true bm
  clear bm
  obtain⟨a5,H⟩:=hG H
  have bL:=decide_eq_true a5
  have a6:decide (ab<max a1 0)=true:=decide_eq_true (by have h_:(((A).extract 0 (a1:Int).toNat).size:Int)=max a1 0:=(by have hle_:a1≤(A.size:Int):=of_decide_eq_true (by assumption);simp[ByteArray.size_extract];omega);rw[←h_];exact a5)
  have bM:(ab<max a1 0)=True:=eq_true (of_decide_eq_true a6)
  clear a5
  have H':=zaa.mk H
  clear H
  have bn:0≤((ab):Int):=od
  have bo:(ab)<((A.extract 0 (a1:Int).toNat).size:Int):=od
  have bX:=zd2 (A.extract 0 (a1:Int).toNat) (ab)
  replace bn:=eq_true bn
  replace bo:=eq_true bo
  go_wp2
  repeat(go_quiet (fail);try go_wp2)
  go_meet
  case rel=>exact⟨_,((((((bt (A.extract 0 (a1:Int).toNat) (ab))-48)%256)%2)==1)),(by first|rfl|(simp;done)|(simp only[←ad]<;>(first|rfl|simp))|(simp[*];done)),H',⟨by first|omega|exact Nat.le_refl _⟩,⟨bk⟩,⟨bk⟩,⟨bz⟩⟩
 case rest=>
  clear aX
  try clear c5
  try clear ae
  try clear c8
  try clear aP
  try clear aQ
  try clear aR
  try clear aS
  try clear aT
  try clear aU
  try clear aV
  try clear aW
  try clear af ag ah ai
  obtain⟨kq,ac,rfl,HA,aY,D,I,HB⟩:=hcut
  cases kq with
  |zero=>exact absurd HA.out (by simp[zaA.j0])
  |succ bp=>
   have H:=HA.out
   clear HA
   simp only[zaA.j0] at H
   have aZ:=zaa.mk H
   clear H
   go_upto_region 7 with(fail)
   repeat(go_quiet (fail);go_upto_region 7 with(fail))
   go_cut [48] (fun bO wc=> ∃(kq:Nat) (Z:Bool),bO= .bool Z∧zaa (zaA.j1 kq a1 (A.extract 0 (a1:Int).toNat) Z A E=some (r1,r2))∧zaa (kq≤bp)∧zaa (wc.heap[B]? =some (.cells #[.string A,.int .i64 E] 42 (0,0)))∧zaa (wc.heap[J]? =some (.cells #[.string (⟨#[]⟩:ByteArray),.int .i64 0] 42 (0,0)))∧zaa (Below w.heap.size w wc))
   case first=>
    have H:=aZ.out
    clear aZ
    by_cases aH:(Op.bytesLess (A.extract (a1:Int).toNat A.size).toList ([53]:List UInt8))=true
    ·replace H:=hE H aH
     have aA:(Op.bytesLess (A.extract (a1:Int).toNat A.size).toList ([53]:List UInt8))=true:=aH
     clear aH
     try rw[aA]
     have H':=zaa.mk H
     clear H
     go_wp2
     repeat(go_quiet (fail);try go_wp2)
     go_meet
     case rel=>exact⟨_,(true),rz,H',⟨by have:=aY.out;first|omega|exact Nat.le_refl _⟩,⟨bk⟩,⟨bk⟩,⟨bz⟩⟩
    replace H:=hN H aH
    have aA:(Op.bytesLess (A.extract (a1:Int).toNat A.size).toList ([53]:List UInt8))=false:=by simpa using aH
    clear aH
    try rw[aA]
    by_cases aB:(A.extract (a1:Int).toNat A.size).toList=([53]:List UInt8)
    ·replace H:=hE H aB
     have a7:((A.extract (a1:Int).toNat A.size).toList==([53]:List UInt8))=true:=beq_iff_eq.mpr aB
     have a8:((A.extract (a1:Int).toNat A.size).toList !=([53]:List UInt8))=false:=bne_eq_false_iff_eq.mpr aB
     clear aB
     have H':=zaa.mk H
     clear H
     go_wp2
     repeat(go_quiet (fail);try go_wp2)
     go_meet
     case rel=>exact⟨_,(!ac),rz,H',⟨by have:=aY.out;first|omega|exact Nat.le_refl _⟩,⟨bk⟩,⟨bk⟩,⟨bz⟩⟩
    replace H:=hN H aB
    have a7:((A.extract (a1:Int).toNat A.size).toList==([53]:List UInt8))=false:=beq_eq_false_iff_ne.mpr aB
    have a8:((A.extract (a1:Int).toNat A.size).toList !=([53]:List UInt8))=true:=bne_iff_ne.mpr aB
    have H':=zaa.mk H
    clear H
    go_wp2
    repeat(go_quiet (fail);try go_wp2)
    go_meet
    case rel=>exact⟨_,(false),rz,H',⟨by have:=aY.out;first|omega|exact Nat.le_refl _⟩,⟨bk⟩,⟨bk⟩,⟨bz⟩⟩
   case rest=>
    clear aZ
    try clear c5
    try clear ae
    try clear c8
    try clear aP
    try clear aQ
    try clear aR
    try clear aS
    try clear aT
    try clear aU
    try clear aV
    try clear aW
    try clear af ag ah ai
    obtain⟨kq,Z,rfl,HA,bY,D,I,HB⟩:=hcut
    cases kq with
    |zero=>exact absurd HA.out (by simp[zaA.j1])
    |succ bZ=>
     have H:=HA.out
     clear HA
     simp only[zaA.j1] at H
     by_cases a4:Z=true
     ·subst a4
      replace H:=hT H
      replace H:=bs H
      obtain⟨⟨aC,aD⟩,a9,H⟩:=H
      dsimp only at H
      obtain⟨rfl,rfl⟩:=o2 H
      have bP:=K.out
      have bQ:=M.out
      obtain⟨bq,br,bu,bv⟩:=cz2 D
      go_wp2_with (first|(go_at_call 49;(with_reducible refine(zaS.calls (A.extract 0 (a1:Int).toNat) E aC aD _ a9.out).mono ?_);rintro e bw ⟨rfl,hb⟩;replace D:=kN (g:=B) (cs:=#[.string A,.int .i64 E]) hb bk;replace I:=kN (g:=J) (cs:=#[.string (⟨#[]⟩:ByteArray),.int .i64 0]) hb bk;replace HB:=bN bz hb;(try clear hb);(try clear aj);(try clear hk);(try clear hi);obtain⟨ak,al,am,an⟩:=cz2 I))
      repeat(go_quiet (first|(go_at_call 49;(with_reducible refine(zaS.calls (A.extract 0 (a1:Int).toNat) E aC aD _ a9.out).mono ?_);rintro e bw ⟨rfl,hb⟩;have O:=kN (g:=B) (cs:=#[.string A,.int .i64 E]) hb bk;have U:=kN (g:=J) (cs:=#[.string (⟨#[]⟩:ByteArray),.int .i64 0]) hb bk;have X:=bN bz hb;clear D;clear I;clear HB;have D:=O;have I:=U;have HB:=X;clear O U X;(try clear hb);(try clear aj);(try clear hk);(try clear hi);obtain⟨ak,al,am,an⟩:=cz2 I));try go_wp2_with (first|(go_at_call 49;(with_reducible refine(zaS.calls (A.extract 0 (a1:Int).toNat) E aC aD _ a9.out).mono ?_);rintro e bw ⟨rfl,hb⟩;have O:=kN (g:=B) (cs:=#[.string A,.int .i64 E]) hb bk;have U:=kN (g:=J) (cs:=#[.string (⟨#[]⟩:ByteArray),.int .i64 0]) hb bk;have X:=bN bz hb;clear D;clear I;clear HB;have D:=O;have I:=U;have HB:=X;clear O U X;(try clear hb);(try clear aj);(try clear hk);(try clear hi);obtain⟨ak,al,am,an⟩:=cz2 I)))
      refine bodyPost_ret (results_cell_row rfl _ _ J 42 #[.string aC,.int .i64 aD] (0,0) _ rfl bk Tryz.underlying42 rfl (by kernel_rfl)) rfl ?_
      exact⟨ez,bz⟩
     replace a4:=Bool.eq_false_iff.mpr a4
     subst a4
     replace H:=hF H
     replace H:=bs H
     obtain⟨Y,ba,H⟩:=H
     replace H:=bs H
     obtain⟨⟨aE,aF⟩,bb,H⟩:=H
     dsimp only at H
     obtain⟨rfl,rfl⟩:=o2 H
     go_wp2_with (first|(go_at_call 81;(with_reducible refine(zby.calls (A.extract 0 (a1:Int).toNat) Y _ ba.out).mono ?_);rintro e bA ⟨rfl,hb⟩;replace D:=kN (g:=B) (cs:=#[.string A,.int .i64 E]) hb bk;replace I:=kN (g:=J) (cs:=#[.string (⟨#[]⟩:ByteArray),.int .i64 0]) hb bk;replace HB:=bN bz hb;(try clear hb);(try clear aj);(try clear hk);(try clear hi);have a2:=K.out;have a3:=M.out;obtain⟨ao,ap,ar,au⟩:=cz2 D)|(go_at_call 49;(with_reducible refine(zaS.calls Y (wrap64 ((wrap64 (E+(Y.size:Int)))-a1)) aE aF _ bb.out).mono ?_);rintro e bB ⟨rfl,hb⟩;replace D:=kN (g:=B) (cs:=#[.string A,.int .i64 E]) hb bk;replace I:=kN (g:=J) (cs:=#[.string (⟨#[]⟩:ByteArray),.int .i64 0]) hb bk;replace HB:=bN bz hb;(try clear hb);(try clear aj);(try clear hk);(try clear hi);obtain⟨av,aw,ax,ay⟩:=cz2 I))
     repeat(go_quiet (first|(go_at_call 81;(with_reducible refine(zby.calls (A.extract 0 (a1:Int).toNat) Y _ ba.out).mono ?_);rintro e bA ⟨rfl,hb⟩;have O:=kN (g:=B) (cs:=#[.string A,.int .i64 E]) hb bk;have U:=kN (g:=J) (cs:=#[.string (⟨#[]⟩:ByteArray),.int .i64 0]) hb bk;have X:=bN bz hb;clear D;clear I;clear HB;have D:=O;have I:=U;have HB:=X;clear O U X;(try clear hb);(try clear aj);(try clear hk);(try clear hi);have a2:=K.out;have a3:=M.out;obtain⟨ao,ap,ar,au⟩:=cz2 D)|(go_at_call 49;(with_reducible refine(zaS.calls Y (wrap64 ((wrap64 (E+(Y.size:Int)))-a1)) aE aF _ bb.out).mono ?_);rintro e bB ⟨rfl,hb⟩;have O:=kN (g:=B) (cs:=#[.string A,.int .i64 E]) hb bk;have U:=kN (g:=J) (cs:=#[.string (⟨#[]⟩:ByteArray),.int .i64 0]) hb bk;have X:=bN bz hb;clear D;clear I;clear HB;have D:=O;have I:=U;have HB:=X;clear O U X;(try clear hb);(try clear aj);(try clear hk);(try clear hi);obtain⟨av,aw,ax,ay⟩:=cz2 I));try go_wp2_with (first|(go_at_call 81;(with_reducible refine(zby.calls (A.extract 0 (a1:Int).toNat) Y _ ba.out).mono ?_);rintro e bA ⟨rfl,hb⟩;have O:=kN (g:=B) (cs:=#[.string A,.int .i64 E]) hb bk;have U:=kN (g:=J) (cs:=#[.string (⟨#[]⟩:ByteArray),.int .i64 0]) hb bk;have X:=bN bz hb;clear D;clear I;clear HB;have D:=O;have I:=U;have HB:=X;clear O U X;(try clear hb);(try clear aj);(try clear hk);(try clear hi);have a2:=K.out;have a3:=M.out;obtain⟨ao,ap,ar,au⟩:=cz2 D)|(go_at_call 49;(with_reducible refine(zaS.calls Y (wrap64 ((wrap64 (E+(Y.size:Int)))-a1)) aE aF _ bb.out).mono ?_);rintro e bB ⟨rfl,hb⟩;have O:=kN (g:=B) (cs:=#[.string A,.int .i64 E]) hb bk;have U:=kN (g:=J) (cs:=#[.string (⟨#[]⟩:ByteArray),.int .i64 0]) hb bk;have X:=bN bz hb;clear D;clear I;clear HB;have D:=O;have I:=U;have HB:=X;clear O U X;(try clear hb);(try clear aj);(try clear hk);(try clear hi);obtain⟨av,aw,ax,ay⟩:=cz2 I)))
     refine bodyPost_ret (results_cell_row rfl _ _ J 42 #[.string aE,.int .i64 aF] (0,0) _ rfl bk Tryz.underlying42 rfl (by kernel_rfl)) rfl ?_
     exact⟨ez,bz⟩
def za6.f(k:Nat)(D:ByteArray)(E:Int)(a1:Int):Option (ByteArray×Int×Int):=(zaB.f k D E).bind fun A=>(if A.2.2=0 then((zaA.f k A.1 A.2.1 a1).bind fun B=>(some (B.1,B.2,0))) else(some ((⟨#[]⟩:ByteArray),0,A.2.2)))
theorem za6.calls(k:Nat)(D:ByteArray)(E:Int)(a1:Int)(r1:ByteArray)(r2:Int)(r3:Int)(w:World)(h:za6.f k D E a1=some (r1,r2,r3)):
  Calls Tryz.prog 32 #[.agg #[.string D,.int .i64 E],.int .i64 a1] w fun e w'=>e= .returned (.tuple #[.agg #[.string r1,.int .i64 r2],.int .i64 r3])∧Below w.heap.size w w':=by
 have aJ:=Tryz.underlying42
 have HB:=zaa.mk (Below.refl w.heap.size w)
 have H:((zaB.f k D E).bind fun K=>(if K.2.2=0 then((zaA.f k K.1 K.2.1 a1).bind fun Y=>(some (Y.1,Y.2,0))) else(some ((⟨#[]⟩:ByteArray),0,K.2.2))))=some (r1,r2,r3):=h
 clear h
 replace H:=bs H
 obtain⟨⟨Z,aa,ac⟩,A3,H⟩:=H
 dsimp only at H
 go_enter Tryz.func32,Tryz.ntmps32
 go_upto_if 13 with(first|((with_reducible refine zah (N:=2) rfl ?_);refine zag rfl (N:=2) rfl (cs:=#[.string D,.int .i64 E]) (t:=42) gz ?_;intro J hg w4 hbox hb;have aC:=gN bz hg;have I:=zaa.mk hbox;replace HB:=bN bz hb;clear hb hbox hg)|((with_reducible refine zah (N:=4) rfl ?_);refine zag rfl (N:=4) rfl (cs:=#[.string (⟨#[]⟩:ByteArray),.int .i64 0]) (t:=42) gz ?_;intro M hg w5 hbox hb;have aD:=gN bz hg;have A:=lN (g:=J) (cs:=#[.string D,.int .i64 E]) hg bk;have B:=rN (g:=J) (cs:=#[.string D,.int .i64 E]) hg bk;replace I:=kN (g:=J) (cs:=#[.string D,.int .i64 E]) hb bk;have O:=zaa.mk hbox;replace HB:=bN bz hb;clear hb hbox hg;have aK:=A.out;have aL:=B.out;obtain⟨au,av,aw,ax⟩:=cz2 I)|((with_reducible refine zad (f:=50) rfl ?_);refine gB Tryz.func50 (zaB.calls k D E Z aa ac _ A3.out) ?_;intro w8 hb;replace I:=kN (g:=J) (cs:=#[.string D,.int .i64 E]) hb bk;replace O:=kN (g:=M) hb bk;replace HB:=bN bz hb;clear hb;obtain⟨ay,az,aA,aB⟩:=cz2 I))
 (try simp only[Act.put,List.setIfInBounds_toArray,List.set_cons_zero,List.set_cons_succ])
 by_cases ab:ac=0
 ·replace H:=hE H ab
  obtain⟨U,X⟩:=eT ab
  clear ab
  try first|rw[U]|rw[X]
  replace H:=bs H
  obtain⟨⟨ad,ae⟩,aE,H⟩:=H
  dsimp only at H
  obtain⟨rfl,rfl,rfl⟩:=o3 H
  have aF:=A.out
  have aG:=B.out
  obtain⟨af,ag,ah,ai⟩:=cz2 I
  go_wp2_with (first|((with_reducible refine zad (f:=51) rfl ?_);refine gB Tryz.func51 (zaA.calls k Z aa a1 ad ae _ aE.out) ?_;intro aM hb;replace I:=kN (g:=J) (cs:=#[.string Z,.int .i64 aa]) hb bk;replace O:=kN (g:=M) hb bk;replace HB:=bN bz hb;clear hb;obtain⟨aj,ak,al,am⟩:=cz2 O))
  refine bodyPost_ret (zaK rfl _ _ M 42 #[.string ad,.int .i64 ae] (0,0) _ rfl bk Tryz.underlying42 rfl (by kernel_rfl)) rfl ?_
  exact⟨ez,bz⟩
 replace H:=hN H ab
 obtain⟨U,X⟩:=eF ab
 try first|rw[U]|rw[X]
 obtain⟨rfl,rfl,rfl⟩:=o3 H
 have aH:=B.out
 have aI:=A.out
 obtain⟨an,ao,ap,ar⟩:=cz2 O
 go_wp2
 refine bodyPost_ret (zaK rfl _ _ M 42 #[.string (⟨#[]⟩:ByteArray),.int .i64 0] (0,0) _ rfl bk Tryz.underlying42 rfl (by kernel_rfl)) rfl ?_
 exact⟨ez,bz⟩
def zbp.f(k:Nat)(D:ByteArray)(E:Int)(a1:Int):Option (ByteArray×Int×Int):=(zaB.f k D E).bind fun A=>(if A.2.2=0 then((zaA.f k A.1 A.2.1 (wrap64 (A.2.1+(mx (-20000) (mn a1 20000))))).bind fun B=>(some (B.1,B.2,0))) else(some ((⟨#[]⟩:ByteArray),0,A.2.2)))
theorem zbp.calls(k:Nat)(D:ByteArray)(E:Int)(a1:Int)(r1:ByteArray)(r2:Int)(r3:Int)(w:World)(h:zbp.f k D E a1=some (r1,r2,r3)):
  Calls Tryz.prog 33 #[.agg #[.string D,.int .i64 E],.int .i64 a1] w fun e w'=>e= .returned (.tuple #[.agg #[.string r1,.int .i64 r2],.int .i64 r3])∧Below w.heap.size w w':=by
 have aR:=Tryz.underlying42
 have HB:=zaa.mk (Below.refl w.heap.size w)
 have H:((zaB.f k D E).bind fun J=>(if J.2.2=0 then((zaA.f k J.1 J.2.1 (wrap64 (J.2.1+(mx (-20000) (mn a1 20000))))).bind fun ac=>(some (ac.1,ac.2,0))) else(some ((⟨#[]⟩:ByteArray),0,J.2.2))))=some (r1,r2,r3):=h
 clear h
 replace H:=bs H
 obtain⟨⟨ad,ab,af⟩,A3,H⟩:=H
 dsimp only at H
 go_enter Tryz.func33,Tryz.ntmps33
 go_upto_if 13 with(first|((with_reducible refine zah (N:=2) rfl ?_);refine zag rfl (N:=2) rfl (cs:=#[.string D,.int .i64 E]) (t:=42) gz ?_;intro K hg w4 hbox hb;have aK:=gN bz hg;have I:=zaa.mk hbox;replace HB:=bN bz hb;clear hb hbox hg)|((with_reducible refine zah (N:=4) rfl ?_);refine zag rfl (N:=4) rfl (cs:=#[.string (⟨#[]⟩:ByteArray),.int .i64 0]) (t:=42) gz ?_;intro X hg w5 hbox hb;have aL:=gN bz hg;have A:=lN (g:=K) (cs:=#[.string D,.int .i64 E]) hg bk;have B:=rN (g:=K) (cs:=#[.string D,.int .i64 E]) hg bk;replace I:=kN (g:=K) (cs:=#[.string D,.int .i64 E]) hb bk;have Y:=zaa.mk hbox;replace HB:=bN bz hb;clear hb hbox hg;have aS:=A.out;have aT:=B.out;obtain⟨ay,az,aA,aB⟩:=cz2 I)|((with_reducible refine zad (f:=50) rfl ?_);refine gB Tryz.func50 (zaB.calls k D E ad ab af _ A3.out) ?_;intro w8 hb;replace I:=kN (g:=K) (cs:=#[.string D,.int .i64 E]) hb bk;replace Y:=kN (g:=X) hb bk;replace HB:=bN bz hb;clear hb;obtain⟨aC,aD,aE,aF⟩:=cz2 I))
 (try simp only[Act.put,List.setIfInBounds_toArray,List.set_cons_zero,List.set_cons_succ])
 by_cases ae:af=0
 ·replace H:=hE H ae
  obtain⟨Z,aa⟩:=eT ae
  clear ae
  try first|rw[Z]|rw[aa]
  obtain⟨U,M⟩:=ex (mn a1 20000)
  (first|rw[M] at H|simp only[M] at H)
  (try(have aG:U≤20000:=by(rw[←M];unfold mn;(repeat' split)<;>omega)))
  (try(have aH:U≤64:=by omega))
  have aI:(if 20000<a1 then 20000 else a1)=U:=M
  obtain⟨ag,O⟩:=ex (mx (-20000) (U))
  (first|rw[O] at H|simp only[O] at H)
  have aJ:(if(-20000)<(U) then(U) else(-20000))=ag:=O
  replace H:=bs H
  obtain⟨⟨ah,ai⟩,aM,H⟩:=H
  dsimp only at H
  obtain⟨rfl,rfl,rfl⟩:=o3 H
  have aN:=A.out
  have aO:=B.out
  obtain⟨aj,ak,al,am⟩:=cz2 I
  go_wp2_with (first|((with_reducible refine zad (f:=51) rfl ?_);refine gB Tryz.func51 (zaA.calls k ad ab (wrap64 (ab+(ag))) ah ai _ aM.out) ?_ (hargs:=by(try simp only[List.map_toArray,List.map_cons,List.map_nil]);first|done|(simp only[O];rfl)|rfl|(simp only[List.length_drop,List.length_take];rfl));intro aU hb;replace I:=kN (g:=K) (cs:=#[.string ad,.int .i64 ab]) hb bk;replace Y:=kN (g:=X) hb bk;replace HB:=bN bz hb;clear hb;obtain⟨an,ao,ap,ar⟩:=cz2 Y))
  refine bodyPost_ret (zaK rfl _ _ X 42 #[.string ah,.int .i64 ai] (0,0) _ rfl bk Tryz.underlying42 rfl (by kernel_rfl)) rfl ?_
  exact⟨by first|exact ez|(simp only[←M,←O];exact ez),bz⟩
 replace H:=hN H ae
 obtain⟨Z,aa⟩:=eF ae
 try first|rw[Z]|rw[aa]
 obtain⟨rfl,rfl,rfl⟩:=o3 H
 have aP:=B.out
 have aQ:=A.out
 obtain⟨au,av,aw,ax⟩:=cz2 Y
 go_wp2
 refine bodyPost_ret (zaK rfl _ _ X 42 #[.string (⟨#[]⟩:ByteArray),.int .i64 0] (0,0) _ rfl bk Tryz.underlying42 rfl (by kernel_rfl)) rfl ?_
 exact⟨ez,bz⟩
end
end Go.Proofs.YtecpgdfnamkfdaaGreatDoor.Fn
end
section
namespace Go.Proofs.YtecpgdfnamkfdaaGreatDoor.Fn
open Go.RowKit Go.Proofs.YtecpgdfnamkfdaaGreatDoorW.PrintWords
set_option linter.unusedVariables false
def strings_Repeat.f(s:ByteArray)(c:Int):Option ByteArray:=
  if 0≤c∧c≤1000000∧s.size≤1000000 then some ⟨(Lib.repeatL s.data.toList c.toNat).toArray⟩ else none
theorem strings_Repeat.calls(a0:ByteArray)(a1:Int)(r:ByteArray)(w:World)(h:strings_Repeat.f a0 a1=some r):
    Calls Tryz.prog 46 #[.string a0,.int .i64 a1] w fun e w'=>e= .returned (.string r)∧Below w.heap.size w w':=by
  unfold strings_Repeat.f at h
  split at h
  · rename_i hc
    obtain rfl:=Option.some.inj h
    obtain⟨n,rfl⟩: ∃n:Nat,a1=n:=⟨a1.toNat,by omega⟩
    have hm:a0.size*n≤1000000*1000000:=Nat.mul_le_mul (by omega) (by omega)
    refine(Tryz.strings_Repeat a0 n w (by omega) (by omega)).mono ?_
    rintro e w' ⟨rfl,hb⟩
    exact⟨by rw[Int.toNat_natCast],hb⟩
  · cases h
theorem cell_spot{w:World}{a:Addr}{v:Value}(h:w.cell? a=some v):a.spot=none∧a.block<w.heap.size:=by
  unfold World.cell? at h
  split at h
  · rename_i hg
    split at h
    · cases h
    · rename_i hs
      refine⟨?_,(Array.getElem?_eq_some_iff.1 hg).1⟩
      cases hh:a.spot with
      |none=>rfl
      |some x=>simp[hh] at hs
  · cases h
theorem ziv(b o j:Nat):(⟨b,o,none⟩:Addr).add j=⟨b,o+j,none⟩:=by
  unfold Addr.add
  split
  · rename_i e;subst e;rfl
  · rfl
def strings_Join.f(l:List ByteArray)(sep:ByteArray):Option ByteArray:=
  if l.length≤1000∧(Lib.join (l.map (·.data.toList)) sep.data.toList).length≤1000000 then some ⟨(Lib.join (l.map (·.data.toList)) sep.data.toList).toArray⟩ else none
theorem strings_Join.calls(A0:Option Addr)(c0:Nat)(l0:List ByteArray)(a1:ByteArray)(r:ByteArray)(w:World)(A:Kd.C Kd.string w A0 l0.length l0)(B:l0.length≤c0)(h:strings_Join.f l0 a1=some r):
    Calls Tryz.prog 144 #[.slice A0 l0.length c0,.string a1] w fun e w'=>e= .returned (.string r)∧Below w.heap.size w w':=by
  unfold strings_Join.f at h
  split at h
  · rename_i hc
    obtain rfl:=Option.some.inj h
    cases l0 with
    |nil=>
      refine(Tryz.strings_Join_none A0 c0 a1 w).mono ?_
      rintro e w' ⟨rfl,rfl⟩
      exact⟨rfl,Below.refl _ _⟩
    |cons x t=>
      obtain⟨ad,rfl,h0⟩:=Kd.at_string A 0 (by omega) (by simp)
      obtain⟨hs,hb⟩:=cell_spot h0
      obtain⟨bk,o,sp⟩:=ad
      have hs:sp=none:=hs
      subst hs
      refine Tryz.strings_Join bk o c0 (x::t) a1 w (fun j y hj=>?_) hb (by omega) B (by omega)
      have hjl:j<(x::t).length:=by
        rw[List.getElem?_eq_some_iff] at hj
        exact hj.1
      obtain⟨D,e2,h2⟩:=Kd.at_string A (j:Int) (by omega) (by omega)
      cases e2
      have e3:rdOf ByteArray.empty (x::t) (j:Int)=y:=by
        unfold rdOf
        rw[Int.toNat_natCast,List.getD_eq_getElem?_getD,hj]
        rfl
      rw[e3,Int.toNat_natCast,ziv] at h2
      exact h2
  · cases h
def zbf.f(s:ByteArray):Option ByteArray:=
  if s.size≤1000000∧s.data.toList.all (fun b=>b.toNat<128)=true then some ⟨(Lib.toUpperA s.data.toList).toArray⟩ else none
theorem zbf.calls(a0:ByteArray)(r:ByteArray)(w:World)(h:zbf.f a0=some r):
    Calls Tryz.prog 114 #[.string a0] w fun e w'=>e= .returned (.string r)∧Below w.heap.size w w':=by
  unfold zbf.f at h
  split at h
  · rename_i hc
    obtain rfl:=Option.some.inj h
    refine Tryz.strings_ToUpper_ascii a0 w (by omega) (fun j b hj=>?_)
    have:=List.all_eq_true.1 hc.2 b (List.mem_of_getElem? hj)
    simpa using this
  · cases h
def bits_Len64.f(x:Int):Option Int:=if 0≤x∧x≤18446744073709551615 then some (Lib.bitLen x.toNat:Int) else none
theorem bits_Len64.calls(a0:Int)(r:Int)(w:World)(h:bits_Len64.f a0=some r):
    Calls Tryz.prog 112 #[.int .u64 a0] w fun e w'=>e= .returned (.int .i64 r)∧Below w.heap.size w w':=by
  unfold bits_Len64.f at h
  split at h
  · rename_i hc
    obtain rfl:=Option.some.inj h
    refine(Tryz.bits_Len64 a0 w hc.1 hc.2).mono ?_
    rintro e w' ⟨rfl,rfl⟩
    exact⟨rfl,Below.refl _ _⟩
  · cases h
def strings_CutPrefix.f(s p:ByteArray):Option (ByteArray×Bool):=some (⟨(Lib.trimPrefix s.data.toList p.data.toList).toArray⟩,Lib.hasPrefix s.data.toList p.data.toList)
def strings_CutSuffix.f(s p:ByteArray):Option (ByteArray×Bool):=if s.size≤9223372036854775807 then some (⟨(Lib.trimSuffix s.data.toList p.data.toList).toArray⟩,Lib.hasSuffix s.data.toList p.data.toList) else none
def strings_IndexByte.f(s:ByteArray)(c:Int):Option Int:=some (Lib.indexByte s.data.toList c.toNat.toUInt8)
end Go.Proofs.YtecpgdfnamkfdaaGreatDoor.Fn
end
section
namespace Go.Proofs.YtecpgdfnamkfdaaGreatDoor.Fn
open Go.RowKit Go.Proofs.YtecpgdfnamkfdaaGreatDoorW.PrintWords Go.Proofs.YtecpgdfnamkfdaaGreatDoorW.PrintLast Go.Proofs.YtecpgdfnamkfdaaGreatDoorW.PrintMore
set_option linter.unusedVariables false
set_option linter.unusedSimpArgs false
set_option maxHeartbeats 8000000
set_option maxRecDepth 100000
section
attribute [local go_sem] fnW_0 fnW_1 fnW_2 fnW_3 fnW_4 fnW_5 fnW_guard fnW_eql zaD zaE zaI zaJ
def zaQ.f(a0:ByteArray)(a1:Int):Option (ByteArray):=(strings_Repeat.f (⟨#[48]⟩:ByteArray) (mx 0 (wrap64 (a1-(a0.size:Int))))).bind fun A=>(if a0.size+A.size≤9223372036854775807 then(some (a0++A)) else(none))
theorem zaQ.calls(a0:ByteArray)(a1:Int)(r:ByteArray)(w:World)(h:zaQ.f a0 a1=some r):
  Calls Tryz.prog 105 #[.string a0,.int .i64 a1] w fun e w'=>e= .returned (.string r)∧Below w.heap.size w w':=by
 have HB:=zaa.mk (Below.refl w.heap.size w)
 have H:((strings_Repeat.f (⟨#[48]⟩:ByteArray) (mx 0 (wrap64 (a1-(a0.size:Int))))).bind fun B=>(if a0.size+B.size≤9223372036854775807 then(some (a0++B)) else(none)))=some r:=h
 clear h
 obtain⟨D,A⟩:=ex (mx 0 (wrap64 (a1-(a0.size:Int))))
 (first|rw[A] at H|simp only[A] at H)
 (try(have E:0≤D:=by(rw[←A];unfold mx;(repeat' split)<;>omega)))
 (try(have I:0≤D:=by omega))
 have J:(if 0<(wrap64 (a1-(a0.size:Int))) then(wrap64 (a1-(a0.size:Int))) else 0)=D:=A
 replace H:=bs H
 obtain⟨B,A4,H⟩:=H
 by_cases c5:a0.size+B.size≤9223372036854775807
 ·replace H:=hE H c5
  have K:=eq_true c5
  have M:=decide_eq_true c5
  have O:=eq_false (Nat.not_lt.2 c5)
  obtain rfl:=Option.some.inj H
  go_enter Tryz.func105,Tryz.ntmps105
  go_wp2_with (first|((with_reducible refine zad (f:=46) rfl ?_);refine gB Tryz.func46 (strings_Repeat.calls (⟨#[48]⟩:ByteArray) D B _ A4.out) ?_ (hargs:=by(try simp only[List.map_toArray,List.map_cons,List.map_nil]);first|done|(simp only[A];rfl)|rfl|(simp only[List.length_drop,List.length_take];rfl));intro w6 hb;replace HB:=bN bz hb;clear hb))
  go_ret
  exact⟨by first|exact ez|(simp only[←A];exact ez),bz⟩
 replace H:=hN H c5
 exact absurd H (by simp)
def zas.f(l0:List ByteArray):Option (ByteArray):=(strings_Join.f l0 (⟨#[]⟩:ByteArray)).bind fun A=>(some A)
theorem zas.calls(A0:Option Addr)(c0:Nat)(l0:List ByteArray)(r:ByteArray)(w:World)(B:Kd.C Kd.string w A0 l0.length l0)(D:l0.length≤c0)(h:zas.f l0=some r):
  Calls Tryz.prog 109 #[.slice A0 l0.length c0] w fun e w'=>e= .returned (.string r)∧Below w.heap.size w w':=by
 have E:=zaa.mk B
 have I:=zaa.mk D
 clear B D
 have HB:=zaa.mk (Below.refl w.heap.size w)
 have H:((strings_Join.f l0 (⟨#[]⟩:ByteArray)).bind fun A=>(some A))=some r:=h
 clear h
 replace H:=bs H
 obtain⟨A,A2,H⟩:=H
 obtain rfl:=Option.some.inj H
 go_enter Tryz.func109,Tryz.ntmps109
 go_wp2_with (first|((with_reducible refine zad (f:=144) rfl ?_);refine za3 (some 4) rfl rfl Tryz.func144 (by kernel_rfl) rfl #[.slice A0 l0.length c0,.string (⟨#[]⟩:ByteArray)] rfl lz ?_;(with_reducible refine(strings_Join.calls _ _ l0 (⟨#[]⟩:ByteArray) A _ ?side1 ?side2 A2.out).mono ?_);(case side1=>repeat(first|exact E.out|(with_reducible refine Kd.C_alloc ?_ _)|(with_reducible refine Kd.C_drewN ?_ _)|(with_reducible refine Kd.C_drew ?_)));(case side2=>exact I.out);rintro e w3 ⟨rfl,hb⟩;refine⟨_,rfl,?_⟩;replace HB:=bN bz hb;(try clear hb);(try clear J);(try clear hk);(try clear hi)))
 go_ret
 exact⟨ez,bz⟩
def zay.f(E:Int)(I:Int)(J:Int)(K:Int)(M:Int)(A:Bool)(O:Int)(a1:ByteArray)(a2:ByteArray):Option (ByteArray):=if a2.toList=([]:List UInt8) then(if A=true then((zas.f (([a1,(⟨#[46]⟩:ByteArray),a2]:List ByteArray))).bind fun B=>(some B)) else(some a1)) else((zas.f (([a1,(⟨#[46]⟩:ByteArray),a2]:List ByteArray))).bind fun D=>(some D))
theorem zay.calls(E:Int)(I:Int)(J:Int)(K:Int)(O:Int)(U:Bool)(X:Int)(a1:ByteArray)(a2:ByteArray)(r:ByteArray)(w:World)(h:zay.f E I J K O U X a1 a2=some r):
  Calls Tryz.prog 107 #[.agg #[.int .u64 E,.int .i64 I,.int .u64 J,.int .i64 K,.int .i64 O,.bool U,.int .i32 X],.string a1,.string a2] w fun e w'=>e= .returned (.string r)∧Below w.heap.size w w':=by
 have aR:=Tryz.underlying74
 have HB:=zaa.mk (Below.refl w.heap.size w)
 have H:(if a2.toList=([]:List UInt8) then(if U=true then((zas.f (([a1,(⟨#[46]⟩:ByteArray),a2]:List ByteArray))).bind fun ae=>(some ae)) else(some a1)) else((zas.f (([a1,(⟨#[46]⟩:ByteArray),a2]:List ByteArray))).bind fun af=>(some af)))=some r:=h
 clear h
 by_cases c4:a2.toList=([]:List UInt8)
 ·replace H:=hE H c4
  have aj:(a2.toList==([]:List UInt8))=true:=beq_iff_eq.mpr c4
  have ar:(a2.toList !=([]:List UInt8))=false:=bne_eq_false_iff_eq.mpr c4
  have au:a2.toList.isEmpty=true:=by simpa using aj
  clear c4
  go_enter Tryz.func107,Tryz.ntmps107
  go_upto_if 13 with(first|((with_reducible refine zah (N:=3) rfl ?_);refine zag rfl (N:=3) rfl (cs:=#[.int .u64 E,.int .i64 I,.int .u64 J,.int .i64 K,.int .i64 O,.bool U,.int .i32 X]) (t:=74) gz ?_;intro Y hg w5 hbox hb;have ao:=gN bz hg;have ap:=gN bz hg;have A:=zaa.mk hbox;replace HB:=bN bz hb;clear hb hbox hg;obtain⟨aB,aC,aD,aE,aF,aG,aH,aI,aJ,aK,aL,aM,aN,aO⟩:=cz7 A))
  (try simp only[Act.put,List.setIfInBounds_toArray,List.set_cons_zero,List.set_cons_succ])
  by_cases c7:U=true
  ·subst c7
   replace H:=hT H
   obtain⟨ak,Z⟩: ∃y_:List ByteArray,y_=(([a1,(⟨#[46]⟩:ByteArray),a2]:List ByteArray)):=⟨_,rfl⟩
   replace H:((zas.f ak).bind fun ae=>(some ae))=some r:=by first|(rw[Z];with_reducible exact H)|(have ai:=(Option.bind_some _ _).symm.trans H;rw[Z];with_reducible exact ai)|(have ai:=(Option.bind_some _ _).symm.trans H;with_reducible exact ai)|with_reducible exact H|(rw[Z];exact H)|exact H
   have al:=zaa.mk Z
   clear Z
   replace H:=bs H
   obtain⟨ae,A8,H⟩:=H
   obtain rfl:=Option.some.inj H
   go_wp2_with (first|((with_reducible refine zah (N:=17) rfl ?_);refine Kd.R_lit Kd.string _ 9 ?hg (N:=17) ?hd (xs:=([a1,(⟨#[46]⟩:ByteArray),a2]:List ByteArray)) (inner:=[.string a1,.string (⟨#[46]⟩:ByteArray),.string a2]) (ok:=fun _=>True) (okp:=fun _=>True) ?hr ?hp (fun _ hk=>hk) trivial (Below.refl _ _) (Nat.le_refl _) (by simp) ?_;(case hd=>rfl);(case hg=>rfl);(case hr=>first|(go_simp;done)|(go_simp;rfl));(case hp=>exact(Reps.one (show Kd.M Kd.string _ _ _ a1 [.string a1] from rfl) (Reps.one (show Kd.M Kd.string _ _ _ (⟨#[46]⟩:ByteArray) [.string (⟨#[46]⟩:ByteArray)] from rfl) (Reps.one (show Kd.M Kd.string _ _ _ a2 [.string a2] from rfl) (Reps.none _ _)))));intro aS w9 ag hb hg_ hnew_;clear hg_ hnew_;(first|rw[←al.out] at ag|(simp only[Int.reduceToNat] at ag;rw[←al.out] at ag));have aa:=zaa.mk (Kd.R_lower ag (zaG bz));have ab:=kN (g:=Y) (cs:=#[.int .u64 E,.int .i64 I,.int .u64 J,.int .i64 K,.int .i64 O,.bool true,.int .i32 X]) hb bk;have ac:=bN bz hb;clear A;clear HB;have B:=aa;have A:=ab;have HB:=ac;clear aa ab ac;clear hb ag;obtain⟨av,aw,ax⟩:=Kd.R_slice B.out;subst ax)|((with_reducible refine zad (f:=109) rfl ?_);refine za3 (some 18) rfl rfl Tryz.func109 (by kernel_rfl) rfl #[.slice av ak.length aw] rfl lz ?_;(with_reducible refine(zas.calls _ _ ak ae _ ?side1 ?side2 A8.out).mono ?_);(case side1=>repeat(first|exact(Kd.R_reads' B.out).2.2|(with_reducible refine Kd.C_alloc ?_ _)|(with_reducible refine Kd.C_drewN ?_ _)|(with_reducible refine Kd.C_drew ?_)));(case side2=>exact(Kd.R_reads' B.out).2.1);rintro e aU ⟨rfl,hb⟩;refine⟨_,rfl,?_⟩;have aa:=zaa.mk (Kd.R_below (by(with_reducible repeat(first|apply Kd.R_alloc|apply Kd.R_drewN|apply Kd.R_drew));exact B.out) hb);have ab:=kN (g:=Y) (cs:=#[.int .u64 E,.int .i64 I,.int .u64 J,.int .i64 K,.int .i64 O,.bool true,.int .i32 X]) hb bk;have ac:=bN bz hb;clear B;clear A;clear HB;have B:=aa;have A:=ab;have HB:=ac;clear aa ab ac;(try clear hb);(try clear aP);(try clear hk);(try clear hi)))
   go_ret
   exact⟨ez,bz⟩
  replace c7:=Bool.eq_false_iff.mpr c7
  subst c7
  replace H:=hF H
  obtain rfl:=Option.some.inj H
  go_wp2
  go_ret
  exact⟨ez,bz⟩
 replace H:=hN H c4
 have aj:(a2.toList==([]:List UInt8))=false:=beq_eq_false_iff_ne.mpr c4
 have ar:(a2.toList !=([]:List UInt8))=true:=bne_iff_ne.mpr c4
 have au:a2.toList.isEmpty=false:=by simpa using aj
 obtain⟨am,ad⟩: ∃y_:List ByteArray,y_=(([a1,(⟨#[46]⟩:ByteArray),a2]:List ByteArray)):=⟨_,rfl⟩
 replace H:((zas.f am).bind fun af=>(some af))=some r:=by first|(rw[ad];with_reducible exact H)|(have ai:=(Option.bind_some _ _).symm.trans H;rw[ad];with_reducible exact ai)|(have ai:=(Option.bind_some _ _).symm.trans H;with_reducible exact ai)|with_reducible exact H|(rw[ad];exact H)|exact H
 have an:=zaa.mk ad
 clear ad
 replace H:=bs H
 obtain⟨af,aQ,H⟩:=H
 obtain rfl:=Option.some.inj H
 go_enter Tryz.func107,Tryz.ntmps107
 go_wp2_with (first|((with_reducible refine zah (N:=3) rfl ?_);refine zag rfl (N:=3) rfl (cs:=#[.int .u64 E,.int .i64 I,.int .u64 J,.int .i64 K,.int .i64 O,.bool U,.int .i32 X]) (t:=74) gz ?_;intro Y hg aV hbox hb;have ao:=gN bz hg;have ap:=gN bz hg;have A:=zaa.mk hbox;replace HB:=bN bz hb;clear hb hbox hg)|((with_reducible refine zah (N:=17) rfl ?_);refine Kd.R_lit Kd.string _ 9 ?hg (N:=17) ?hd (xs:=([a1,(⟨#[46]⟩:ByteArray),a2]:List ByteArray)) (inner:=[.string a1,.string (⟨#[46]⟩:ByteArray),.string a2]) (ok:=fun _=>True) (okp:=fun _=>True) ?hr ?hp (fun _ hk=>hk) trivial (Below.refl _ _) (Nat.le_refl _) (by simp) ?_;(case hd=>rfl);(case hg=>rfl);(case hr=>first|(go_simp;done)|(go_simp;rfl));(case hp=>exact(Reps.one (show Kd.M Kd.string _ _ _ a1 [.string a1] from rfl) (Reps.one (show Kd.M Kd.string _ _ _ (⟨#[46]⟩:ByteArray) [.string (⟨#[46]⟩:ByteArray)] from rfl) (Reps.one (show Kd.M Kd.string _ _ _ a2 [.string a2] from rfl) (Reps.none _ _)))));intro aT aW ah hb hg_ hnew_;clear hg_ hnew_;(first|rw[←an.out] at ah|(simp only[Int.reduceToNat] at ah;rw[←an.out] at ah));have aa:=zaa.mk (Kd.R_lower ah (zaG bz));have ab:=kN (g:=Y) (cs:=#[.int .u64 E,.int .i64 I,.int .u64 J,.int .i64 K,.int .i64 O,.bool U,.int .i32 X]) hb bk;have ac:=bN bz hb;clear A;clear HB;have D:=aa;have A:=ab;have HB:=ac;clear aa ab ac;clear hb ah;obtain⟨ay,az,aA⟩:=Kd.R_slice D.out;subst aA)|((with_reducible refine zad (f:=109) rfl ?_);refine za3 (some 18) rfl rfl Tryz.func109 (by kernel_rfl) rfl #[.slice ay am.length az] rfl lz ?_;(with_reducible refine(zas.calls _ _ am af _ ?side1 ?side2 aQ.out).mono ?_);(case side1=>repeat(first|exact(Kd.R_reads' D.out).2.2|(with_reducible refine Kd.C_alloc ?_ _)|(with_reducible refine Kd.C_drewN ?_ _)|(with_reducible refine Kd.C_drew ?_)));(case side2=>exact(Kd.R_reads' D.out).2.1);rintro e aX ⟨rfl,hb⟩;refine⟨_,rfl,?_⟩;have aa:=zaa.mk (Kd.R_below (by(with_reducible repeat(first|apply Kd.R_alloc|apply Kd.R_drewN|apply Kd.R_drew));exact D.out) hb);have ab:=kN (g:=Y) (cs:=#[.int .u64 E,.int .i64 I,.int .u64 J,.int .i64 K,.int .i64 O,.bool U,.int .i32 X]) hb bk;have ac:=bN bz hb;clear D;clear A;clear HB;have D:=aa;have A:=ab;have HB:=ac;clear aa ab ac;(try clear hb);(try clear aP);(try clear hk);(try clear hi)))
 go_ret
 exact⟨ez,bz⟩
def zaq.f(B:Int)(D:Int)(E:Int)(I:Int)(J:Int)(K:Bool)(M:Int)(a1:ByteArray)(a2:Int):Option (ByteArray):=if a2≤0 then((strings_Repeat.f (⟨#[48]⟩:ByteArray) (wrap64 (-a2))).bind fun O=>(if O.size+a1.size≤9223372036854775807 then((zay.f B D E I J K M (⟨#[48]⟩:ByteArray) (O++a1)).bind fun U=>(some U)) else(none))) else((zaQ.f a1 a2).bind fun A=>(if 0≤a2 then(if a2≤(A.size:Int) then((zay.f B D E I J K M (A.extract 0 (a2:Int).toNat) (A.extract (a2:Int).toNat A.size)).bind fun X=>(some X)) else(none)) else(none)))
def zaq.T2:Bool×List (List Nat×List Nat):=(true,[([],[]),([],[]),([1],[1]),([2],[2]),([],[]),([3,4],[3,4]),([0,5,3],[0,5]),([6,6,0,1,2,3,4,5,6],[6])])
def zaq.B2:List Nat:=[0,0,2,6,0,30,63,127]
theorem zaq.tab2:rtab .any (opsOf Tryz.f108 2)=zaq.T2:=by kernel_rfl
theorem zaq.bits2:waitsOk zaq.T2.2 zaq.B2=true:=by kernel_rfl
def zaq.T4:Bool×List (List Nat×List Nat):=(true,[([],[]),([],[]),([],[]),([1,2],[1,2]),([],[]),([],[]),([4,5],[4,5]),([0,3,6],[0,3,6]),([7,7,0,1,2,3,4,5,6,7],[7])])
def zaq.B4:List Nat:=[0,0,0,6,0,0,48,127,255]
theorem zaq.tab4:rtab .any (opsOf Tryz.f108 4)=zaq.T4:=by kernel_rfl
theorem zaq.bits4:waitsOk zaq.T4.2 zaq.B4=true:=by kernel_rfl
theorem zaq.calls(I:Int)(J:Int)(M:Int)(O:Int)(U:Int)(X:Bool)(Y:Int)(a1:ByteArray)(a2:Int)(r:ByteArray)(w:World)(h:zaq.f I J M O U X Y a1 a2=some r):
  Calls Tryz.prog 108 #[.agg #[.int .u64 I,.int .i64 J,.int .u64 M,.int .i64 O,.int .i64 U,.bool X,.int .i32 Y],.string a1,.int .i64 a2] w fun e w'=>e= .returned (.string r)∧Below w.heap.size w w':=by
 have ao:=Tryz.underlying74
 have HB:=zaa.mk (Below.refl w.heap.size w)
 have H:(if a2≤0 then((strings_Repeat.f (⟨#[48]⟩:ByteArray) (wrap64 (-a2))).bind fun Z=>(if Z.size+a1.size≤9223372036854775807 then((zay.f I J M O U X Y (⟨#[48]⟩:ByteArray) (Z++a1)).bind fun aa=>(some aa)) else(none))) else((zaQ.f a1 a2).bind fun E=>(if 0≤a2 then(if a2≤(E.size:Int) then((zay.f I J M O U X Y (E.extract 0 (a2:Int).toNat) (E.extract (a2:Int).toNat E.size)).bind fun ab=>(some ab)) else(none)) else(none))))=some r:=h
 clear h
 go_enter Tryz.func108,Tryz.ntmps108
 go_upto_if 8 with(first|((with_reducible refine zah (N:=3) rfl ?_);refine zag rfl (N:=3) rfl (cs:=#[.int .u64 I,.int .i64 J,.int .u64 M,.int .i64 O,.int .i64 U,.bool X,.int .i32 Y]) (t:=74) gz ?_;intro B hg w4 hbox hb;have ae:=gN bz hg;have A:=zaa.mk hbox;replace HB:=bN bz hb;clear hb hbox hg))
 (try simp only[Act.put,List.setIfInBounds_toArray,List.set_cons_zero,List.set_cons_succ])
 by_cases c5:a2≤0
 ·replace H:=hE H c5
  have ac:=decide_eq_true c5
  clear c5
  try rw[ac]
  replace H:=bs H
  obtain⟨Z,A6,H⟩:=H
  obtain⟨c7,H⟩:=hG H
  have ap:=eq_true c7
  have ar:=decide_eq_true c7
  have au:=eq_false (Nat.not_lt.2 c7)
  replace H:=bs H
  obtain⟨aa,A8,H⟩:=H
  obtain rfl:=Option.some.inj H
  try go_wp2
  replace A:=zaa.mk (zao A.out)
  replace HB:=zaa.mk (zaH HB.out)
  refine za8 (n:=8) (S:=fun w'=>w'.cell? ⟨B,0,none⟩=some (.int .u64 I)∧w'.cell? ⟨B,1,none⟩=some (.int .i64 J)∧w'.cell? ⟨B,2,none⟩=some (.int .u64 M)∧w'.cell? ⟨B,3,none⟩=some (.int .i64 O)∧w'.cell? ⟨B,4,none⟩=some (.int .i64 U)∧w'.cell? ⟨B,5,none⟩=some (.bool X)∧w'.cell? ⟨B,6,none⟩=some (.int .i32 Y)) (ds:=[]) #[false,false,false,false,false,false,false,false] (by kernel_rfl) rfl rfl ⟨(zab A.out 0).trans rfl,(zab A.out 1).trans rfl,(zab A.out 2).trans rfl,(zab A.out 3).trans rfl,(zab A.out 4).trans rfl,(zab A.out 5).trans rfl,(zab A.out 6).trans rfl⟩ (fun hHeld=>?_);refine za0 zaq.tab2 zaq.bits2 (fun D HW_=>?_)
  generalize w4.drew=w9 at A HB hHeld ⊢
  refine pz (i:=1) (N:=10) D ?_
  refine pz (i:=2) (N:=11) D ?_
  refine pz (i:=4) (N:=13) D ?_
  refine tz (i:=0) (N:=9) rfl D HW_ hHeld (by(rintro w' ⟨s0,s1,s2,s3,s4,s5,s6⟩;go_simp;with_reducible rfl)) ?_
  refine oz (i:=3) (N:=some 12) D fun K hK=>?_
  refine gG Tryz.func46 (strings_Repeat.calls (⟨#[48]⟩:ByteArray) (wrap64 (-a2)) Z _ A6.out) ?_
  intro av hb
  replace A:=kN (g:=B) hb bk
  replace HB:=bN bz hb
  clear hb
  refine hK.out _ _ (d7 A) (fun hHeld=>?_)
  clear hK K
  refine zaL (a':=?_) ?_ ?_
  rotate_left
  ·show Act.put _ (some 12) _=_
   simp only[Act.put,List.setIfInBounds_toArray,List.set_cons_zero,List.set_cons_succ,zar,zau]
   rfl
  refine pz (i:=5) (N:=14) D ?_
  refine oz (i:=6) (N:=some 15) D fun K hK=>?_
  refine gG Tryz.func107 (zay.calls I J M O U X Y (⟨#[48]⟩:ByteArray) (Z++a1) aa _ A8.out) ?_
  intro aw hb
  replace A:=kN (g:=B) hb bk
  replace HB:=bN bz hb
  clear hb
  refine hK.out _ _ (d7 A) (fun hHeld=>?_)
  clear hK K
  refine zaL (a':=?_) ?_ ?_
  rotate_left
  ·show Act.put _ (some 15) _=_
   simp only[Act.put,List.setIfInBounds_toArray,List.set_cons_zero,List.set_cons_succ,zar,zau]
   rfl
  refine pz (i:=7) (N:=6) D ?_
  refine dz D ?_
  try go_wp2
  go_ret
  exact⟨ez,bz⟩
 replace H:=hN H c5
 have ac:=decide_eq_false c5
 clear c5
 try rw[ac]
 replace H:=bs H
 obtain⟨E,af,H⟩:=H
 by_cases ad:0≤a2
 case neg=>
  replace H:=hN H ad
  exact absurd H (by simp)
 obtain⟨ag,ah,H⟩:=hE3 H ad
 clear ad
 obtain⟨ai,aj,H⟩:=hG3 H
 have ak:=eq_true (od:0≤a2)
 have al:=eq_true (od:a2≤(E.size:Int))
 replace H:=bs H
 obtain⟨ab,am,H⟩:=H
 obtain rfl:=Option.some.inj H
 try go_wp2_with (first|((with_reducible refine zad (f:=105) rfl ?_);refine gB Tryz.func105 (zaQ.calls a1 a2 E _ af.out) ?_;intro an hb;replace A:=kN (g:=B) hb bk;replace HB:=bN bz hb;clear hb))
 replace A:=zaa.mk (zao A.out)
 replace HB:=zaa.mk (zaH HB.out)
 refine za8 (n:=9) (S:=fun w'=>w'.cell? ⟨B,0,none⟩=some (.int .u64 I)∧w'.cell? ⟨B,1,none⟩=some (.int .i64 J)∧w'.cell? ⟨B,2,none⟩=some (.int .u64 M)∧w'.cell? ⟨B,3,none⟩=some (.int .i64 O)∧w'.cell? ⟨B,4,none⟩=some (.int .i64 U)∧w'.cell? ⟨B,5,none⟩=some (.bool X)∧w'.cell? ⟨B,6,none⟩=some (.int .i32 Y)) (ds:=[]) #[false,false,false,false,false,false,false,false,false] (by kernel_rfl) rfl rfl ⟨(zab A.out 0).trans rfl,(zab A.out 1).trans rfl,(zab A.out 2).trans rfl,(zab A.out 3).trans rfl,(zab A.out 4).trans rfl,(zab A.out 5).trans rfl,(zab A.out 6).trans rfl⟩ (fun hHeld=>?_);refine za0 zaq.tab4 zaq.bits4 (fun D HW_=>?_)
 generalize an.drew=ax at A HB hHeld ⊢
 refine pz (i:=1) (N:=20) D ?_
 refine pz (i:=2) (N:=21) D ?_
 refine pz (i:=3) (N:=22) D ?_
 refine pz (i:=4) (N:=23) D ?_
 refine pz (i:=5) (N:=24) D ?_
 refine pz (i:=6) (N:=25) D ?_
 refine tz (i:=0) (N:=19) rfl D HW_ hHeld (by(rintro w' ⟨s0,s1,s2,s3,s4,s5,s6⟩;go_simp;with_reducible rfl)) ?_
 refine oz (i:=7) (N:=some 26) D fun K hK=>?_
 refine gG Tryz.func107 (zay.calls I J M O U X Y (E.extract 0 (a2:Int).toNat) (E.extract (a2:Int).toNat E.size) ab _ am.out) ?_
 intro ay hb
 replace A:=kN (g:=B) hb bk
 replace HB:=bN bz hb
 clear hb
 refine hK.out _ _ (d7 A) (fun hHeld=>?_)
 clear hK K
 refine zaL (a':=?_) ?_ ?_
 rotate_left
 ·show Act.put _ (some 26) _=_
  simp only[Act.put,List.setIfInBounds_toArray,List.set_cons_zero,List.set_cons_succ,zar,zau]
  rfl
 refine pz (i:=8) (N:=6) D ?_
 refine dz D ?_
 try go_wp2
 go_ret
 exact⟨ez,bz⟩
end
def dgF(sg:ByteArray)(b:Nat):Nat→Nat→List Int→List Int
  |0,_,l=>l
  |k+1,m,l=>if m / b=0 then bt sg ((m%b:Nat):Int)::l else dgF sg b k (m / b) (bt sg ((m%b:Nat):Int)::l)
def zaY.f(n b:Int)(sg:ByteArray):Option ByteArray:=
  if 0≤n∧n≤18446744073709551615∧2≤b∧b≤(sg.size:Int)∧sg.size≤1000 then some (strOfNums (dgF sg b.toNat 64 n.toNat [])) else none
theorem ziw{sg:ByteArray}{b k m:Nat}{l:List Int}(h:m / b≠0):dgF sg b (k+1) m l=dgF sg b k (m / b) (bt sg ((m%b:Nat):Int)::l):=by
  rw[dgF,if_neg h]
theorem zix{sg:ByteArray}{b k m:Nat}{l:List Int}(h:m / b=0):dgF sg b (k+1) m l=bt sg ((m%b:Nat):Int)::l:=by
  rw[dgF,if_pos h]
def Out(w:World)(g:Nat)(t:TypeId)(j:Nat)(l:List Int):Prop:= ∃cur,w.heap[g]? =some (.cells cur t (0,0))∧cur.size=64∧cur.toList.drop j=nums .u8 l
theorem Out.cell{w:World}{g:Nat}{t:TypeId}{j:Nat}{l:List Int}(h:Out w g t j l)(i:Nat)(hi:i<64): ∃v,w.cell? ⟨g,i,none⟩=some v:=by
  obtain⟨cur,hg,hs,_⟩:=h
  refine⟨cur[i],?_⟩
  rw[zab hg i]
  exact Array.getElem?_eq_getElem (by omega)
theorem Out.free{w:World}{g:Nat}{t:TypeId}{j:Nat}{l:List Int}(h:Out w g t j l)(i:Nat):w.frozen? ⟨g,i,none⟩=false:=by
  obtain⟨cur,hg,_,_⟩:=h
  exact zaC hg i
theorem Out.set{w:World}{g:Nat}{t:TypeId}{j:Nat}{l:List Int}(h:Out w g t (j+1) l)(hj:j<64)(x:Int):Out (w.setCell ⟨g,j,none⟩ (.int .u8 x)) g t j (x::l):=by
  obtain⟨cur,hg,hs,hd⟩:=h
  refine⟨cur.setIfInBounds j (.int .u8 x),?_,by simpa using hs,?_⟩
  · have hlt:g<w.heap.size:=(Array.getElem?_eq_some_iff.1 hg).1
    have hv:w.heap[g]= .cells cur t (0,0):=(Array.getElem?_eq_some_iff.1 hg).2
    unfold World.setCell
    rw[Array.getElem?_eq_getElem (by simpa using hlt),Array.getElem_modify]
    simp[hv]
  · have hlen:cur.toList.length=64:=by rw[Array.length_toList];exact hs
    rw[Array.toList_setIfInBounds,List.drop_eq_getElem_cons (by rw[List.length_set];omega),List.getElem_set_self,List.drop_set_of_lt (by omega),hd]
    rfl
theorem Out.text{P:Program}{w:World}{g:Nat}{t e src dst:TypeId}{j:Nat}{l:List Int}(h:Out w g t j l)(hs:P.underlying src=some (.slice e))(he:P.underlying e=some (.int .u8))(hd:P.underlying dst=some .string)(n cap:Nat)(hn:n=l.length):
    (convert src dst (.slice (some ⟨g,j,none⟩) n cap)).run P w= .ok (.string (strOfNums l)) w:=by
  subst hn
  obtain⟨cur,hg,hsz,hdr⟩:=h
  refine run_convert_bytes_arg w src e hs he g j l.length cap l rfl (fun i hi=>?_) dst hd
  rw[zab hg (j+i)]
  have h2:(cur.toList.drop j)[i]? =(nums .u8 l)[i]? :=by rw[hdr]
  rw[List.getElem?_drop,Array.getElem?_toList] at h2
  rw[h2]
  simp[nums,List.getElem?_eq_getElem hi,List.getD_eq_getElem?_getD]
theorem zdN{w wr:World}(h:Below w.heap.size w wr)(c:Int)(j:Nat):Below w.heap.size w (wr.setCell ⟨w.heap.size,j,none⟩ (.int .u8 c)):=h.setCell (by simp) _
theorem ziy(W:World)(g j:Nat)(hj:j<64):(Instr.sliceAt 181 (.pointer (some ⟨g,0,none⟩)) (some (.int .i64 (j:Int))) none none).run Tryz.prog W= .ok (.slice (some ⟨g,j,none⟩) (64-j) (64-j)) W:=by
  have hu:=run_underlying (P:=Tryz.prog) Tryz.underlying181
  have hb:(Instr.sliceBounds false 64 64 (some (.int .i64 (j:Int))) none none).run Tryz.prog W= .ok (j,64,64) W:=by
    simp[Instr.sliceBounds,run_sliceBound,(by omega:(j:Int)≤64)]
  have hz:(sizeOf 5).run Tryz.prog W= .ok 1 W:=by kernel_rfl
  simp only[Instr.sliceAt,Instr.sureAddr,Sem.run_bind,hu,Result.andThen]
  simp[add_plain,hz]
  rw[hb]
  simp
  omega
set_option maxHeartbeats 4000000 in
set_option maxRecDepth 100000 in
theorem zaY.calls(a0 a1:Int)(a2:ByteArray)(r:ByteArray)(w:World)(h:zaY.f a0 a1 a2=some r):
    Calls Tryz.prog 145 #[.int .u64 a0,.int .u64 a1,.string a2] w fun e w'=>e= .returned (.string r)∧Below w.heap.size w w':=by
  unfold zaY.f at h
  split at h
  case isFalse=>cases h
  rename_i hc
  obtain⟨h0,h1,h2,h3,h4⟩:=hc
  obtain⟨N,rfl⟩: ∃N:Nat,a0=N:=⟨a0.toNat,by omega⟩
  obtain⟨b,rfl⟩: ∃b:Nat,a1=b:=⟨a1.toNat,by omega⟩
  rw[Int.toNat_natCast,Int.toNat_natCast] at h
  have hr:=Option.some.inj h
  clear h
  have HR:=zaa.mk hr
  clear hr
  have hP:N<b^64:=Nat.lt_of_lt_of_le (show N<2^64 by omega) (Nat.pow_le_pow_left (by omega) 64)
  have HP:=zaa.mk hP
  clear hP
  go_enter Tryz.func145,Tryz.ntmps145
  go_wp2
  go_loopw [0,8] (fun n i wr=> ∃(j m:Nat) (l:List Int),n= .int .u64 m∧i= .int .i64 ((j:Int)+1)∧j<64∧m≤18446744073709551615∧zaa (m<b^(j+1))∧zaa (dgF a2 b (j+1) m l=dgF a2 b 64 N [])∧zaa (l.length+j+1=64)∧zaa (Out wr w.heap.size 181 (j+1) l)∧zaa (Below w.heap.size w wr)) (fun _ i _=>(intOf i).toNat)
  case atStart=>exact⟨63,N,[],rfl,rfl,by omega,by omega,HP,⟨rfl⟩,⟨rfl⟩,⟨_,heap_alloc_new w _,by first|rfl|simp,by first|rfl|simp⟩,⟨(Below.refl _ _).alloc (Nat.le_refl _) _⟩⟩
  case round=>
    obtain⟨j,m,l,rfl,rfl,hj,hm,HM,HD,HL,HO,HB⟩:=hrel
    obtain⟨v0,I⟩:=HO.out.cell j hj
    have J:=HO.out.free j
    have K:(2:Int)≤(b:Int):=h2
    have hmod:(m:Int)%(b:Int)<(a2.size:Int):=Int.lt_of_lt_of_le (Int.emod_lt_of_pos _ (by omega)) h3
    have A:0≤(m:Int)%(b:Int):=Int.emod_nonneg _ (by omega)
    have hbt:=zd2 a2 ((m:Int)%(b:Int))
    have hcm:((m%b:Nat):Int)=(m:Int)%(b:Int):=by simp
    have hqm:((m / b:Nat):Int)=(m:Int) / (b:Int):=by simp
    have E:IntKind.u64.wrap ((m:Int) / (b:Int))=((m / b:Nat):Int):=by
      have hle:m / b≤m:=Nat.div_le_self _ _
      rw[←hqm]
      clear hqm hcm hbt hmod A
      generalize m / b=q at hle ⊢
      exact IntWalk.u64_in _ ⟨by omega,by omega⟩
    have HS:= @ziw a2 b j m l
    have HE:= @zix a2 b j m l
    rw[hcm] at HS HE
    have B:m / b<b^j:=Nat.div_lt_of_lt_mul (by have:=HM.out;rw[Nat.pow_succ,Nat.mul_comm] at this;exact this)
    have HQ:=zaa.mk (Nat.div_le_self m b)
    generalize bt a2 ((m:Int)%(b:Int))=c at hbt HS HE
    generalize m / b=q at E HS HE B HQ
    have hout:=zaa.mk (HO.out.set hj c)
    have hsl:=fun W=>ziy W w.heap.size j hj
    have hcv:=hout.out.text (src:=51) (dst:=9) Tryz.underlying51 Tryz.underlying5 Tryz.underlying9 (64-j) (64-j) (by have:=HL.out;simp;omega)
    have HSA:=zaa.mk HS
    have HEA:=zaa.mk HE
    have HMA:=zaa.mk B
    clear h0 h1 h3 h4 hcm hqm HS HE B
    have HBs:=zaa.mk (zdN HB.out c j)
    go_wp2
    · go_ret
      have D:q=0:=by
        have hh:((q:Int)==0)=true:=by assumption
        have:=beq_iff_eq.mp hh
        omega
      exact⟨by show Ending.returned (.string (strOfNums (c::l)))= .returned (.string r);rw[←HR.out,←HD.out,HEA.out D],HBs.out⟩
    · have D:q≠0:=by
        have hh:((q:Int)==0)=false:=by assumption
        have:=beq_eq_false_iff_ne.mp hh
        omega
      have M:j≠0:=by
        intro e
        have:=HMA.out
        rw[e,Nat.pow_zero] at this
        omega
      obtain⟨i,rfl⟩: ∃i,j=i+1:=⟨j-1,by omega⟩
      go_roundw
      case rel=>exact⟨i,q,c::l,by go_num,by go_num,by omega,by have:=HQ.out;omega,HMA,⟨by rw[←HD.out,HSA.out D]⟩,⟨by have:=HL.out;simp;omega⟩,hout,HBs⟩
      case measure=>simp[intOf];omega
section
attribute [local go_sem] fnW_0 fnW_1 fnW_2 fnW_3 fnW_4 fnW_5 fnW_guard fnW_eql zaD zaE zaI zaJ
def zaU.f(a0:Int)(a1:Int):Option (ByteArray):=if a1=2 then((zaY.f a0 (IntKind.u64.wrap (a1)) (⟨#[48,49,50,51,52,53,54,55,56,57,97,98,99,100,101,102]⟩:ByteArray)).bind fun A=>(some A)) else(if a1=8 then((zaY.f a0 (IntKind.u64.wrap (a1)) (⟨#[48,49,50,51,52,53,54,55,56,57,97,98,99,100,101,102]⟩:ByteArray)).bind fun B=>(some B)) else(if a1=10 then((zaY.f a0 (IntKind.u64.wrap (a1)) (⟨#[48,49,50,51,52,53,54,55,56,57,97,98,99,100,101,102]⟩:ByteArray)).bind fun D=>(some D)) else(if a1=16 then((zaY.f a0 (IntKind.u64.wrap (a1)) (⟨#[48,49,50,51,52,53,54,55,56,57,97,98,99,100,101,102]⟩:ByteArray)).bind fun E=>(some E)) else(some (⟨#[]⟩:ByteArray)))))
theorem zaU.calls(a0:Int)(a1:Int)(r:ByteArray)(w:World)(h:zaU.f a0 a1=some r):
  Calls Tryz.prog 110 #[.int .u64 a0,.int .i64 a1] w fun e w'=>e= .returned (.string r)∧Below w.heap.size w w':=by
 have HB:=zaa.mk (Below.refl w.heap.size w)
 have H:(if a1=2 then((zaY.f a0 (IntKind.u64.wrap (a1)) (⟨#[48,49,50,51,52,53,54,55,56,57,97,98,99,100,101,102]⟩:ByteArray)).bind fun A=>(some A)) else(if a1=8 then((zaY.f a0 (IntKind.u64.wrap (a1)) (⟨#[48,49,50,51,52,53,54,55,56,57,97,98,99,100,101,102]⟩:ByteArray)).bind fun B=>(some B)) else(if a1=10 then((zaY.f a0 (IntKind.u64.wrap (a1)) (⟨#[48,49,50,51,52,53,54,55,56,57,97,98,99,100,101,102]⟩:ByteArray)).bind fun D=>(some D)) else(if a1=16 then((zaY.f a0 (IntKind.u64.wrap (a1)) (⟨#[48,49,50,51,52,53,54,55,56,57,97,98,99,100,101,102]⟩:ByteArray)).bind fun E=>(some E)) else(some (⟨#[]⟩:ByteArray))))))=some r:=h
 clear h
 by_cases c3:a1=2
 ·replace H:=hE H c3
  obtain⟨M,O⟩:=eT c3
  clear c3
  replace H:=bs H
  obtain⟨A,A4,H⟩:=H
  obtain rfl:=Option.some.inj H
  go_enter Tryz.func110,Tryz.ntmps110
  go_wp2_with (first|((with_reducible refine zad (f:=145) rfl ?_);refine gB Tryz.func145 (zaY.calls a0 (IntKind.u64.wrap (a1)) (⟨#[48,49,50,51,52,53,54,55,56,57,97,98,99,100,101,102]⟩:ByteArray) A _ A4.out) ?_;intro w5 hb;replace HB:=bN bz hb;clear hb))
  go_ret
  exact⟨ez,bz⟩
 replace H:=hN H c3
 obtain⟨M,O⟩:=eF c3
 by_cases c6:a1=8
 ·replace H:=hE H c6
  obtain⟨U,X⟩:=eT c6
  clear c6
  replace H:=bs H
  obtain⟨B,A7,H⟩:=H
  obtain rfl:=Option.some.inj H
  go_enter Tryz.func110,Tryz.ntmps110
  go_wp2_with (first|((with_reducible refine zad (f:=145) rfl ?_);refine gB Tryz.func145 (zaY.calls a0 (IntKind.u64.wrap (a1)) (⟨#[48,49,50,51,52,53,54,55,56,57,97,98,99,100,101,102]⟩:ByteArray) B _ A7.out) ?_;intro w8 hb;replace HB:=bN bz hb;clear hb))
  go_ret
  exact⟨ez,bz⟩
 replace H:=hN H c6
 obtain⟨U,X⟩:=eF c6
 by_cases c9:a1=10
 ·replace H:=hE H c9
  obtain⟨Y,Z⟩:=eT c9
  clear c9
  replace H:=bs H
  obtain⟨D,aa,H⟩:=H
  obtain rfl:=Option.some.inj H
  go_enter Tryz.func110,Tryz.ntmps110
  go_wp2_with (first|((with_reducible refine zad (f:=145) rfl ?_);refine gB Tryz.func145 (zaY.calls a0 (IntKind.u64.wrap (a1)) (⟨#[48,49,50,51,52,53,54,55,56,57,97,98,99,100,101,102]⟩:ByteArray) D _ aa.out) ?_;intro ac hb;replace HB:=bN bz hb;clear hb))
  go_ret
  exact⟨ez,bz⟩
 replace H:=hN H c9
 obtain⟨Y,Z⟩:=eF c9
 by_cases I:a1=16
 ·replace H:=hE H I
  obtain⟨J,K⟩:=eT I
  clear I
  replace H:=bs H
  obtain⟨E,ab,H⟩:=H
  obtain rfl:=Option.some.inj H
  go_enter Tryz.func110,Tryz.ntmps110
  go_wp2_with (first|((with_reducible refine zad (f:=145) rfl ?_);refine gB Tryz.func145 (zaY.calls a0 (IntKind.u64.wrap (a1)) (⟨#[48,49,50,51,52,53,54,55,56,57,97,98,99,100,101,102]⟩:ByteArray) E _ ab.out) ?_;intro ad hb;replace HB:=bN bz hb;clear hb))
  go_ret
  exact⟨ez,bz⟩
 replace H:=hN H I
 obtain⟨J,K⟩:=eF I
 obtain rfl:=Option.some.inj H
 go_enter Tryz.func110,Tryz.ntmps110
 go_wp2
 go_ret
 exact⟨ez,bz⟩
def za7.f(a0:ByteArray)(a1:Int)(a2:Int):Option (ByteArray):=if a1<0 then((zaU.f (IntKind.u64.wrap (wrap64 (-a1))) 10).bind fun A=>((strings_Repeat.f (⟨#[48]⟩:ByteArray) (mx 0 (wrap64 (a2-(A.size:Int))))).bind fun D=>((zas.f (([a0,(⟨#[45]⟩:ByteArray),D,A]:List ByteArray))).bind fun E=>(some E)))) else((zaU.f (IntKind.u64.wrap (a1)) 10).bind fun B=>((strings_Repeat.f (⟨#[48]⟩:ByteArray) (mx 0 (wrap64 (a2-(B.size:Int))))).bind fun I=>((zas.f (([a0,(⟨#[43]⟩:ByteArray),I,B]:List ByteArray))).bind fun J=>(some J))))
theorem za7.calls(a0:ByteArray)(a1:Int)(a2:Int)(r:ByteArray)(w:World)(h:za7.f a0 a1 a2=some r):
  Calls Tryz.prog 111 #[.string a0,.int .i64 a1,.int .i64 a2] w fun e w'=>e= .returned (.string r)∧Below w.heap.size w w':=by
 have HB:=zaa.mk (Below.refl w.heap.size w)
 have H:(if a1<0 then((zaU.f (IntKind.u64.wrap (wrap64 (-a1))) 10).bind fun A=>((strings_Repeat.f (⟨#[48]⟩:ByteArray) (mx 0 (wrap64 (a2-(A.size:Int))))).bind fun J=>((zas.f (([a0,(⟨#[45]⟩:ByteArray),J,A]:List ByteArray))).bind fun aa=>(some aa)))) else((zaU.f (IntKind.u64.wrap (a1)) 10).bind fun B=>((strings_Repeat.f (⟨#[48]⟩:ByteArray) (mx 0 (wrap64 (a2-(B.size:Int))))).bind fun K=>((zas.f (([a0,(⟨#[43]⟩:ByteArray),K,B]:List ByteArray))).bind fun ab=>(some ab)))))=some r:=h
 clear h
 by_cases c4:a1<0
 ·replace H:=hE H c4
  have al:=decide_eq_true c4
  clear c4
  replace H:=bs H
  obtain⟨A,A5,H⟩:=H
  obtain⟨ak,O⟩:=ex (mx 0 (wrap64 (a2-(A.size:Int))))
  (first|rw[O] at H|simp only[O] at H)
  (try rw[O] at A5)
  (try(have az:0≤ak:=by(rw[←O];unfold mx;(repeat' split)<;>omega)))
  (try(have aA:0≤ak:=by omega))
  have aB:(if 0<(wrap64 (a2-(A.size:Int))) then(wrap64 (a2-(A.size:Int))) else 0)=ak:=O
  replace H:=bs H
  obtain⟨J,A7,H⟩:=H
  obtain⟨ag,U⟩: ∃y_:List ByteArray,y_=(([a0,(⟨#[45]⟩:ByteArray),J,A]:List ByteArray)):=⟨_,rfl⟩
  replace H:((zas.f ag).bind fun aa=>(some aa))=some r:=by first|(rw[U];with_reducible exact H)|(have ae:=(Option.bind_some _ _).symm.trans H;rw[U];with_reducible exact ae)|(have ae:=(Option.bind_some _ _).symm.trans H;with_reducible exact ae)|with_reducible exact H|(rw[U];exact H)|exact H
  have ah:=zaa.mk U
  clear U
  replace H:=bs H
  obtain⟨aa,A8,H⟩:=H
  obtain rfl:=Option.some.inj H
  go_enter Tryz.func111,Tryz.ntmps111
  go_wp2_with (first|((with_reducible refine zad (f:=110) rfl ?_);refine gB Tryz.func110 (zaU.calls (IntKind.u64.wrap (wrap64 (-a1))) 10 A _ A5.out) ?_;intro w9 hb;replace HB:=bN bz hb;clear hb)|((with_reducible refine zad (f:=46) rfl ?_);refine gB Tryz.func46 (strings_Repeat.calls (⟨#[48]⟩:ByteArray) ak J _ A7.out) ?_ (hargs:=by(try simp only[List.map_toArray,List.map_cons,List.map_nil]);first|done|(simp only[O];rfl)|rfl|(simp only[List.length_drop,List.length_take];rfl));intro aG hb;replace HB:=bN bz hb;clear hb)|((with_reducible refine zah (N:=25) rfl ?_);refine Kd.R_lit Kd.string _ 9 ?hg (N:=25) ?hd (xs:=([a0,(⟨#[45]⟩:ByteArray),J,A]:List ByteArray)) (inner:=[.string a0,.string (⟨#[45]⟩:ByteArray),.string J,.string A]) (ok:=fun _=>True) (okp:=fun _=>True) ?hr ?hp (fun _ hk=>hk) trivial (Below.refl _ _) (Nat.le_refl _) (by simp) ?_;(case hd=>rfl);(case hg=>rfl);(case hr=>first|(go_simp;done)|(go_simp;rfl));(case hp=>exact(Reps.one (show Kd.M Kd.string _ _ _ a0 [.string a0] from rfl) (Reps.one (show Kd.M Kd.string _ _ _ (⟨#[45]⟩:ByteArray) [.string (⟨#[45]⟩:ByteArray)] from rfl) (Reps.one (show Kd.M Kd.string _ _ _ J [.string J] from rfl) (Reps.one (show Kd.M Kd.string _ _ _ A [.string A] from rfl) (Reps.none _ _))))));intro aE aH ac hb hg_ hnew_;clear hg_ hnew_;(first|rw[←ah.out] at ac|(simp only[Int.reduceToNat] at ac;rw[←ah.out] at ac));have X:=zaa.mk (Kd.R_lower ac (zaG bz));have Y:=bN bz hb;clear HB;have E:=X;have HB:=Y;clear X Y;clear hb ac;obtain⟨am,an,ao⟩:=Kd.R_slice E.out;subst ao)|((with_reducible refine zad (f:=109) rfl ?_);refine za3 (some 26) rfl rfl Tryz.func109 (by kernel_rfl) rfl #[.slice am ag.length an] rfl lz ?_;(with_reducible refine(zas.calls _ _ ag aa _ ?side1 ?side2 A8.out).mono ?_);(case side1=>repeat(first|exact(Kd.R_reads' E.out).2.2|(with_reducible refine Kd.C_alloc ?_ _)|(with_reducible refine Kd.C_drewN ?_ _)|(with_reducible refine Kd.C_drew ?_)));(case side2=>exact(Kd.R_reads' E.out).2.1);rintro e aI ⟨rfl,hb⟩;refine⟨_,rfl,?_⟩;have X:=zaa.mk (Kd.R_below (by(with_reducible repeat(first|apply Kd.R_alloc|apply Kd.R_drewN|apply Kd.R_drew));exact E.out) hb);have Y:=bN bz hb;clear E;clear HB;have E:=X;have HB:=Y;clear X Y;clear hb))
  go_ret
  exact⟨by first|exact ez|(simp only[←O];exact ez),bz⟩
 replace H:=hN H c4
 have al:=decide_eq_false c4
 clear c4
 replace H:=bs H
 obtain⟨B,ap,H⟩:=H
 obtain⟨af,D⟩:=ex (mx 0 (wrap64 (a2-(B.size:Int))))
 (first|rw[D] at H|simp only[D] at H)
 (try rw[D] at ap)
 (try(have aw:0≤af:=by(rw[←D];unfold mx;(repeat' split)<;>omega)))
 (try(have ax:0≤af:=by omega))
 have ay:(if 0<(wrap64 (a2-(B.size:Int))) then(wrap64 (a2-(B.size:Int))) else 0)=af:=D
 replace H:=bs H
 obtain⟨K,aC,H⟩:=H
 obtain⟨ai,Z⟩: ∃y_:List ByteArray,y_=(([a0,(⟨#[43]⟩:ByteArray),K,B]:List ByteArray)):=⟨_,rfl⟩
 replace H:((zas.f ai).bind fun ab=>(some ab))=some r:=by first|(rw[Z];with_reducible exact H)|(have ae:=(Option.bind_some _ _).symm.trans H;rw[Z];with_reducible exact ae)|(have ae:=(Option.bind_some _ _).symm.trans H;with_reducible exact ae)|with_reducible exact H|(rw[Z];exact H)|exact H
 have aj:=zaa.mk Z
 clear Z
 replace H:=bs H
 obtain⟨ab,aD,H⟩:=H
 obtain rfl:=Option.some.inj H
 go_enter Tryz.func111,Tryz.ntmps111
 go_wp2_with (first|((with_reducible refine zad (f:=110) rfl ?_);refine gB Tryz.func110 (zaU.calls (IntKind.u64.wrap (a1)) 10 B _ ap.out) ?_;intro aJ hb;replace HB:=bN bz hb;clear hb)|((with_reducible refine zad (f:=46) rfl ?_);refine gB Tryz.func46 (strings_Repeat.calls (⟨#[48]⟩:ByteArray) af K _ aC.out) ?_ (hargs:=by(try simp only[List.map_toArray,List.map_cons,List.map_nil]);first|done|(simp only[D];rfl)|rfl|(simp only[List.length_drop,List.length_take];rfl));intro aK hb;replace HB:=bN bz hb;clear hb)|((with_reducible refine zah (N:=25) rfl ?_);refine Kd.R_lit Kd.string _ 9 ?hg (N:=25) ?hd (xs:=([a0,(⟨#[43]⟩:ByteArray),K,B]:List ByteArray)) (inner:=[.string a0,.string (⟨#[43]⟩:ByteArray),.string K,.string B]) (ok:=fun _=>True) (okp:=fun _=>True) ?hr ?hp (fun _ hk=>hk) trivial (Below.refl _ _) (Nat.le_refl _) (by simp) ?_;(case hd=>rfl);(case hg=>rfl);(case hr=>first|(go_simp;done)|(go_simp;rfl));(case hp=>exact(Reps.one (show Kd.M Kd.string _ _ _ a0 [.string a0] from rfl) (Reps.one (show Kd.M Kd.string _ _ _ (⟨#[43]⟩:ByteArray) [.string (⟨#[43]⟩:ByteArray)] from rfl) (Reps.one (show Kd.M Kd.string _ _ _ K [.string K] from rfl) (Reps.one (show Kd.M Kd.string _ _ _ B [.string B] from rfl) (Reps.none _ _))))));intro aF aL ad hb hg_ hnew_;clear hg_ hnew_;(first|rw[←aj.out] at ad|(simp only[Int.reduceToNat] at ad;rw[←aj.out] at ad));have X:=zaa.mk (Kd.R_lower ad (zaG bz));have Y:=bN bz hb;clear HB;have I:=X;have HB:=Y;clear X Y;clear hb ad;obtain⟨ar,au,av⟩:=Kd.R_slice I.out;subst av)|((with_reducible refine zad (f:=109) rfl ?_);refine za3 (some 26) rfl rfl Tryz.func109 (by kernel_rfl) rfl #[.slice ar ai.length au] rfl lz ?_;(with_reducible refine(zas.calls _ _ ai ab _ ?side1 ?side2 aD.out).mono ?_);(case side1=>repeat(first|exact(Kd.R_reads' I.out).2.2|(with_reducible refine Kd.C_alloc ?_ _)|(with_reducible refine Kd.C_drewN ?_ _)|(with_reducible refine Kd.C_drew ?_)));(case side2=>exact(Kd.R_reads' I.out).2.1);rintro e aM ⟨rfl,hb⟩;refine⟨_,rfl,?_⟩;have X:=zaa.mk (Kd.R_below (by(with_reducible repeat(first|apply Kd.R_alloc|apply Kd.R_drewN|apply Kd.R_drew));exact I.out) hb);have Y:=bN bz hb;clear I;clear HB;have I:=X;have HB:=Y;clear X Y;clear hb))
 go_ret
 exact⟨by first|exact ez|(simp only[←D];exact ez),bz⟩
def zaj.j0:Nat→ByteArray→Int→ByteArray→Bool→Int→Int→Int→Int→Int→Bool→Int→Option (ByteArray)
 |0,_,_,_,_,_,_,_,_,_,_,_=>none
 |k+1,x1,x2,x7,aa,A,B,D,E,I,J,K=>if aa=true then(if 0≤1 then(if 1≤(x1.size:Int) then((zay.f A B D E I J K (x1.extract 0 1) (x1.extract 1 x1.size)).bind fun M=>((za7.f (⟨#[69]⟩:ByteArray) x2 2).bind fun O=>((zas.f (([M,O]:List ByteArray))).bind fun U=>(some U)))) else(none)) else(none)) else(if 0≤1 then(if 1≤(x1.size:Int) then((zay.f A B D E I J K (x1.extract 0 1) (x1.extract 1 x1.size)).bind fun X=>((za7.f x7 x2 2).bind fun Y=>((zas.f (([X,Y]:List ByteArray))).bind fun Z=>(some Z)))) else(none)) else(none))
def zaj.f(k:Nat)(B:Int)(D:Int)(E:Int)(I:Int)(J:Int)(K:Bool)(A:Int)(a1:ByteArray)(a2:Int):Option (ByteArray):=if A=69 then(zaj.j0 k a1 a2 (⟨#[101]⟩:ByteArray) true B D E I J K A) else(zaj.j0 k a1 a2 (⟨#[101]⟩:ByteArray) (A==71) B D E I J K A)
def zaj.T4:Bool×List (List Nat×List Nat):=(true,[([],[]),([],[]),([1],[1]),([],[]),([3],[3]),([0,2,4],[0,2,4]),([],[]),([],[]),([6,7,5],[6,7]),([5,8],[5,8]),([9,8],[9]),([10,10,0,1,2,3,4,5,6,7,8,9,10],[10])])
def zaj.B4:List Nat:=[0,0,2,0,8,31,0,0,255,511,1023,2047]
theorem zaj.tab4:rtab .any (opsOf Tryz.f104 4)=zaj.T4:=by kernel_rfl
theorem zaj.bits4:waitsOk zaj.T4.2 zaj.B4=true:=by kernel_rfl
theorem zaj.calls(k:Nat)(E:Int)(I:Int)(J:Int)(O:Int)(U:Int)(X:Bool)(D:Int)(a1:ByteArray)(a2:Int)(r:ByteArray)(w:World)(h:zaj.f k E I J O U X D a1 a2=some r):
  Calls Tryz.prog 104 #[.agg #[.int .u64 E,.int .i64 I,.int .u64 J,.int .i64 O,.int .i64 U,.bool X,.int .i32 D],.string a1,.int .i64 a2] w fun e w'=>e= .returned (.string r)∧Below w.heap.size w w':=by
 have bE:=Tryz.underlying74
 have HB:=zaa.mk (Below.refl w.heap.size w)
 have H:(if D=69 then(zaj.j0 k a1 a2 (⟨#[101]⟩:ByteArray) true E I J O U X D) else(zaj.j0 k a1 a2 (⟨#[101]⟩:ByteArray) (D==71) E I J O U X D))=some r:=h
 clear h
 have aA:=zaa.mk H
 clear H
 go_enter Tryz.func104,Tryz.ntmps104
 go_upto_region 2 with(first|((with_reducible refine zah (N:=3) rfl ?_);refine zag rfl (N:=3) rfl (cs:=#[.int .u64 E,.int .i64 I,.int .u64 J,.int .i64 O,.int .i64 U,.bool X,.int .i32 D]) (t:=74) gz ?_;intro B hg w5 hbox hb;have bf:=gN bz hg;have A:=zaa.mk hbox;replace HB:=bN bz hb;clear hb hbox hg))
 (try simp only[Act.put,List.setIfInBounds_toArray,List.set_cons_zero,List.set_cons_succ])
 go_cut [15] (fun bg wc=> ∃(kq:Nat) (ah:Bool),bg= .bool ah∧zaa (zaj.j0 kq a1 a2 (⟨#[101]⟩:ByteArray) ah E I J O U X D=some r)∧zaa (kq≤k)∧zaa (wc.heap[B]? =some (.cells #[.int .u64 E,.int .i64 I,.int .u64 J,.int .i64 O,.int .i64 U,.bool X,.int .i32 D] 74 (0,0)))∧zaa (Below w.heap.size w wc))
 case first=>
  have H:=aA.out
  clear aA
  by_cases c6:D=69
  ·replace H:=hE H c6
   obtain⟨al,am⟩:=eT c6
   clear c6
   try first|rw[al]|rw[am]
   have H':=zaa.mk H
   clear H
   obtain⟨aJ,aK,aL,aM,aN,aO,aP,aQ,aR,aS,aT,aU,aV,aW⟩:=cz7 A
   go_wp2
   go_meet
   case rel=>exact⟨_,(true),rz,H',⟨by first|omega|exact Nat.le_refl _⟩,⟨bk⟩,⟨bz⟩⟩
  replace H:=hN H c6
  obtain⟨al,am⟩:=eF c6
  try first|rw[al]|rw[am]
  have H':=zaa.mk H
  clear H
  obtain⟨aX,aY,aZ,a3,a4,a5,a6,a7,a8,a9,ba,bb,bd,be⟩:=cz7 A
  go_wp2
  go_meet
  case rel=>exact⟨_,((D==71)),rz,H',⟨by first|omega|exact Nat.le_refl _⟩,⟨bk⟩,⟨bz⟩⟩
 case rest=>
  clear aA
  obtain⟨kq,ah,rfl,HA,bI,A,HB⟩:=hcut
  cases kq with
  |zero=>exact absurd HA.out (by simp[zaj.j0])
  |succ bJ=>
   have H:=HA.out
   clear HA
   simp only[zaj.j0] at H
   by_cases c9:ah=true
   ·subst c9
    replace H:=hT H
    obtain⟨bh,bi,H⟩:=hG3 H
    obtain⟨bj,bl,H⟩:=hG3 H
    have bm:=eq_true (od:1≤(a1.size:Int))
    replace H:=bs H
    obtain⟨ad,bn,H⟩:=H
    replace H:=bs H
    obtain⟨ae,bo,H⟩:=H
    obtain⟨an,Z⟩: ∃y_:List ByteArray,y_=(([ad,ae]:List ByteArray)):=⟨_,rfl⟩
    replace H:((zas.f an).bind fun ao=>(some ao))=some r:=by first|(rw[Z];with_reducible exact H)|(have ak:=(Option.bind_some _ _).symm.trans H;rw[Z];with_reducible exact ak)|(have ak:=(Option.bind_some _ _).symm.trans H;with_reducible exact ak)|with_reducible exact H|(rw[Z];exact H)|exact H
    have ap:=zaa.mk Z
    clear Z
    replace H:=bs H
    obtain⟨ao,bp,H⟩:=H
    obtain rfl:=Option.some.inj H
    try go_wp2
    replace A:=zaa.mk (zao A.out)
    replace HB:=zaa.mk (zaH HB.out)
    refine za8 (n:=12) (S:=fun w'=>w'.cell? ⟨B,0,none⟩=some (.int .u64 E)∧w'.cell? ⟨B,1,none⟩=some (.int .i64 I)∧w'.cell? ⟨B,2,none⟩=some (.int .u64 J)∧w'.cell? ⟨B,3,none⟩=some (.int .i64 O)∧w'.cell? ⟨B,4,none⟩=some (.int .i64 U)∧w'.cell? ⟨B,5,none⟩=some (.bool X)∧w'.cell? ⟨B,6,none⟩=some (.int .i32 D)) (ds:=[]) #[false,false,false,false,false,false,false,false,false,false,false,false] (by kernel_rfl) rfl rfl ⟨(zab A.out 0).trans rfl,(zab A.out 1).trans rfl,(zab A.out 2).trans rfl,(zab A.out 3).trans rfl,(zab A.out 4).trans rfl,(zab A.out 5).trans rfl,(zab A.out 6).trans rfl⟩ (fun hHeld=>?_);refine za0 zaj.tab4 zaj.bits4 (fun Y HW_=>?_)
    generalize wc.drew=bK at A HB hHeld ⊢
    refine pz (i:=1) (N:=17) Y ?_
    refine pz (i:=2) (N:=18) Y ?_
    refine pz (i:=3) (N:=19) Y ?_
    refine pz (i:=4) (N:=20) Y ?_
    refine pz (i:=6) (N:=22) Y ?_
    refine pz (i:=7) (N:=23) Y ?_
    refine tz (i:=0) (N:=16) rfl Y HW_ hHeld (by(rintro w' ⟨s0,s1,s2,s3,s4,s5,s6⟩;go_simp;with_reducible rfl)) ?_
    refine oz (i:=5) (N:=some 21) Y fun K hK=>?_
    refine gG Tryz.func107 (zay.calls E I J O U X D (a1.extract 0 1) (a1.extract 1 a1.size) ad _ bn.out) ?_
    intro bL hb
    replace A:=kN (g:=B) (cs:=#[.int .u64 E,.int .i64 I,.int .u64 J,.int .i64 O,.int .i64 U,.bool X,.int .i32 D]) hb bk
    replace HB:=bN bz hb
    clear hb
    refine hK.out _ _ (d7 A) (fun hHeld=>?_)
    clear hK K
    refine zaL (a':=?_) ?_ ?_
    rotate_left
    ·show Act.put _ (some 21) _=_
     simp only[Act.put,List.setIfInBounds_toArray,List.set_cons_zero,List.set_cons_succ,zar,zau]
     rfl
    refine oz (i:=8) (N:=some 24) Y fun K hK=>?_
    refine gG Tryz.func111 (za7.calls (⟨#[69]⟩:ByteArray) a2 2 ae _ bo.out) ?_
    intro bM hb
    replace A:=kN (g:=B) (cs:=#[.int .u64 E,.int .i64 I,.int .u64 J,.int .i64 O,.int .i64 U,.bool X,.int .i32 D]) hb bk
    replace HB:=bN bz hb
    clear hb
    refine hK.out _ _ (d7 A) (fun hHeld=>?_)
    clear hK K
    refine zaL (a':=?_) ?_ ?_
    rotate_left
    ·show Act.put _ (some 24) _=_
     simp only[Act.put,List.setIfInBounds_toArray,List.set_cons_zero,List.set_cons_succ,zar,zau]
     rfl
    refine oz (i:=9) (N:=some 25) Y fun K hK=>?_
    refine Kd.R_lit_step Kd.string _ 9 ?hg (N:=25) ?hd (xs:=([ad,ae]:List ByteArray)) (inner:=[.string ad,.string ae]) (ok:=fun _=>True) (okp:=fun _=>True) ?hr ?hp (fun _ hk=>hk) trivial (Below.refl _ _) (Nat.le_refl _) (by simp) ?_;(case hd=>rfl);(case hg=>rfl);(case hr=>first|(go_simp;done)|(go_simp;rfl));(case hp=>exact(Reps.one (show Kd.M Kd.string _ _ _ ad [.string ad] from rfl) (Reps.one (show Kd.M Kd.string _ _ _ ae [.string ae] from rfl) (Reps.none _ _))))
    intro bG bO ai hb hg_ hnew_
    clear hg_ hnew_
    (first|rw[←ap.out] at ai|(simp only[Int.reduceToNat] at ai;rw[←ap.out] at ai))
    have aa:=zaa.mk (Kd.R_lower ai (zaG bz))
    replace A:=kN (g:=B) (cs:=#[.int .u64 E,.int .i64 I,.int .u64 J,.int .i64 O,.int .i64 U,.bool X,.int .i32 D]) hb bk
    replace HB:=bN bz hb
    clear hb ai
    obtain⟨aF,aG,ay⟩:=Kd.R_slice aa.out
    (first|subst ay|(injection ay with ar aB au;have aC:=ar.symm;have aD:=au.symm;clear ar aB au;subst aC;subst aD))
    refine hK.out _ _ (d7 A) (fun hHeld=>?_)
    clear hK K
    refine zaL (a':=?_) ?_ ?_
    rotate_left
    ·show Act.put _ (some 25) _=_
     simp only[Act.put,List.setIfInBounds_toArray,List.set_cons_zero,List.set_cons_succ,zar,zau]
     rfl
    refine oz (i:=10) (N:=some 26) Y fun K hK=>?_
    refine zc6 Tryz.func109 (by kernel_rfl) rfl #[.slice aF an.length aG] (by rfl) rfl rfl lz ?_
    with_reducible refine(zas.calls _ _ an ao _ ?side1 ?side2 bp.out).mono ?_
    (case side1=>repeat(first|exact(Kd.R_reads' aa.out).2.2|(with_reducible refine Kd.C_alloc ?_ _)|(with_reducible refine Kd.C_drewN ?_ _)|(with_reducible refine Kd.C_drew ?_)))
    (case side2=>exact(Kd.R_reads' aa.out).2.1)
    rintro e bP ⟨rfl,hb⟩
    refine⟨_,rfl,?_⟩
    replace aa:=zaa.mk (Kd.R_below (by(with_reducible repeat(first|apply Kd.R_alloc|apply Kd.R_drewN|apply Kd.R_drew));exact aa.out) hb)
    replace A:=kN (g:=B) (cs:=#[.int .u64 E,.int .i64 I,.int .u64 J,.int .i64 O,.int .i64 U,.bool X,.int .i32 D]) hb bk
    replace HB:=bN bz hb
    (try clear hb)
    (try clear bq)
    (try clear hk)
    (try clear hi)
    refine hK.out _ _ (d7 A) (fun hHeld=>?_)
    clear hK K
    refine zaL (a':=?_) ?_ ?_
    rotate_left
    ·show Act.put _ (some 26) _=_
     simp only[Act.put,List.setIfInBounds_toArray,List.set_cons_zero,List.set_cons_succ,zar,zau]
     rfl
    refine pz (i:=11) (N:=6) Y ?_
    refine dz Y ?_
    try go_wp2
    go_ret
    exact⟨ez,bz⟩
   replace c9:=Bool.eq_false_iff.mpr c9
   subst c9
   replace H:=hF H
   by_cases aE:0≤1
   case neg=>
    replace H:=hN H aE
    exact absurd H (by simp)
   obtain⟨br,bu,H⟩:=hE3 H aE
   clear aE
   obtain⟨bv,bw,H⟩:=hG3 H
   have bA:=eq_true (od:1≤(a1.size:Int))
   replace H:=bs H
   obtain⟨af,bB,H⟩:=H
   replace H:=bs H
   obtain⟨ag,bC,H⟩:=H
   obtain⟨av,ab⟩: ∃y_:List ByteArray,y_=(([af,ag]:List ByteArray)):=⟨_,rfl⟩
   replace H:((zas.f av).bind fun aw=>(some aw))=some r:=by first|(rw[ab];with_reducible exact H)|(have ak:=(Option.bind_some _ _).symm.trans H;rw[ab];with_reducible exact ak)|(have ak:=(Option.bind_some _ _).symm.trans H;with_reducible exact ak)|with_reducible exact H|(rw[ab];exact H)|exact H
   have ax:=zaa.mk ab
   clear ab
   replace H:=bs H
   obtain⟨aw,bD,H⟩:=H
   obtain rfl:=Option.some.inj H
   try go_wp2
   replace A:=zaa.mk (zao A.out)
   replace HB:=zaa.mk (zaH HB.out)
   refine za8 (n:=12) (S:=fun w'=>w'.cell? ⟨B,0,none⟩=some (.int .u64 E)∧w'.cell? ⟨B,1,none⟩=some (.int .i64 I)∧w'.cell? ⟨B,2,none⟩=some (.int .u64 J)∧w'.cell? ⟨B,3,none⟩=some (.int .i64 O)∧w'.cell? ⟨B,4,none⟩=some (.int .i64 U)∧w'.cell? ⟨B,5,none⟩=some (.bool X)∧w'.cell? ⟨B,6,none⟩=some (.int .i32 D)) (ds:=[]) #[false,false,false,false,false,false,false,false,false,false,false,false] (by kernel_rfl) rfl rfl ⟨(zab A.out 0).trans rfl,(zab A.out 1).trans rfl,(zab A.out 2).trans rfl,(zab A.out 3).trans rfl,(zab A.out 4).trans rfl,(zab A.out 5).trans rfl,(zab A.out 6).trans rfl⟩ (fun hHeld=>?_);refine za0 zaj.tab4 zaj.bits4 (fun Y HW_=>?_)
   generalize wc.drew=bQ at A HB hHeld ⊢
   refine pz (i:=1) (N:=17) Y ?_
   refine pz (i:=2) (N:=18) Y ?_
   refine pz (i:=3) (N:=19) Y ?_
   refine pz (i:=4) (N:=20) Y ?_
   refine pz (i:=6) (N:=22) Y ?_
   refine pz (i:=7) (N:=23) Y ?_
   refine tz (i:=0) (N:=16) rfl Y HW_ hHeld (by(rintro w' ⟨s0,s1,s2,s3,s4,s5,s6⟩;go_simp;with_reducible rfl)) ?_
   refine oz (i:=5) (N:=some 21) Y fun K hK=>?_
   refine gG Tryz.func107 (zay.calls E I J O U X D (a1.extract 0 1) (a1.extract 1 a1.size) af _ bB.out) ?_
   intro bR hb
   replace A:=kN (g:=B) (cs:=#[.int .u64 E,.int .i64 I,.int .u64 J,.int .i64 O,.int .i64 U,.bool X,.int .i32 D]) hb bk
   replace HB:=bN bz hb
   clear hb
   refine hK.out _ _ (d7 A) (fun hHeld=>?_)
   clear hK K
   refine zaL (a':=?_) ?_ ?_
   rotate_left
   ·show Act.put _ (some 21) _=_
    simp only[Act.put,List.setIfInBounds_toArray,List.set_cons_zero,List.set_cons_succ,zar,zau]
    rfl
   refine oz (i:=8) (N:=some 24) Y fun K hK=>?_
   refine gG Tryz.func111 (za7.calls (⟨#[101]⟩:ByteArray) a2 2 ag _ bC.out) ?_
   intro bS hb
   replace A:=kN (g:=B) (cs:=#[.int .u64 E,.int .i64 I,.int .u64 J,.int .i64 O,.int .i64 U,.bool X,.int .i32 D]) hb bk
   replace HB:=bN bz hb
   clear hb
   refine hK.out _ _ (d7 A) (fun hHeld=>?_)
   clear hK K
   refine zaL (a':=?_) ?_ ?_
   rotate_left
   ·show Act.put _ (some 24) _=_
    simp only[Act.put,List.setIfInBounds_toArray,List.set_cons_zero,List.set_cons_succ,zar,zau]
    rfl
   refine oz (i:=9) (N:=some 25) Y fun K hK=>?_
   refine Kd.R_lit_step Kd.string _ 9 ?hg (N:=25) ?hd (xs:=([af,ag]:List ByteArray)) (inner:=[.string af,.string ag]) (ok:=fun _=>True) (okp:=fun _=>True) ?hr ?hp (fun _ hk=>hk) trivial (Below.refl _ _) (Nat.le_refl _) (by simp) ?_;(case hd=>rfl);(case hg=>rfl);(case hr=>first|(go_simp;done)|(go_simp;rfl));(case hp=>exact(Reps.one (show Kd.M Kd.string _ _ _ af [.string af] from rfl) (Reps.one (show Kd.M Kd.string _ _ _ ag [.string ag] from rfl) (Reps.none _ _))))
   intro bH bU aj hb hg_ hnew_
   clear hg_ hnew_
   (first|rw[←ax.out] at aj|(simp only[Int.reduceToNat] at aj;rw[←ax.out] at aj))
   have ac:=zaa.mk (Kd.R_lower aj (zaG bz))
   replace A:=kN (g:=B) (cs:=#[.int .u64 E,.int .i64 I,.int .u64 J,.int .i64 O,.int .i64 U,.bool X,.int .i32 D]) hb bk
   replace HB:=bN bz hb
   clear hb aj
   obtain⟨aH,aI,az⟩:=Kd.R_slice ac.out
   (first|subst az|(injection az with ar aB au;have aC:=ar.symm;have aD:=au.symm;clear ar aB au;subst aC;subst aD))
   refine hK.out _ _ (d7 A) (fun hHeld=>?_)
   clear hK K
   refine zaL (a':=?_) ?_ ?_
   rotate_left
   ·show Act.put _ (some 25) _=_
    simp only[Act.put,List.setIfInBounds_toArray,List.set_cons_zero,List.set_cons_succ,zar,zau]
    rfl
   refine oz (i:=10) (N:=some 26) Y fun K hK=>?_
   refine zc6 Tryz.func109 (by kernel_rfl) rfl #[.slice aH av.length aI] (by rfl) rfl rfl lz ?_
   with_reducible refine(zas.calls _ _ av aw _ ?side1 ?side2 bD.out).mono ?_
   (case side1=>repeat(first|exact(Kd.R_reads' ac.out).2.2|(with_reducible refine Kd.C_alloc ?_ _)|(with_reducible refine Kd.C_drewN ?_ _)|(with_reducible refine Kd.C_drew ?_)))
   (case side2=>exact(Kd.R_reads' ac.out).2.1)
   rintro e bV ⟨rfl,hb⟩
   refine⟨_,rfl,?_⟩
   replace ac:=zaa.mk (Kd.R_below (by(with_reducible repeat(first|apply Kd.R_alloc|apply Kd.R_drewN|apply Kd.R_drew));exact ac.out) hb)
   replace A:=kN (g:=B) (cs:=#[.int .u64 E,.int .i64 I,.int .u64 J,.int .i64 O,.int .i64 U,.bool X,.int .i32 D]) hb bk
   replace HB:=bN bz hb
   (try clear hb)
   (try clear bq)
   (try clear hk)
   (try clear hi)
   refine hK.out _ _ (d7 A) (fun hHeld=>?_)
   clear hK K
   refine zaL (a':=?_) ?_ ?_
   rotate_left
   ·show Act.put _ (some 26) _=_
    simp only[Act.put,List.setIfInBounds_toArray,List.set_cons_zero,List.set_cons_succ,zar,zau]
    rfl
   refine pz (i:=11) (N:=6) Y ?_
   refine dz Y ?_
   try go_wp2
   go_ret
   exact⟨ez,bz⟩
def zbh.f(A:ByteArray)(B:Int):Option (Int):=if A.toList=([]:List UInt8) then(some 0) else(some (wrap64 (B-1)))
theorem zbh.calls(A:ByteArray)(D:Int)(r:Int)(w:World)(h:zbh.f A D=some r):
  Calls Tryz.prog 106 #[.agg #[.string A,.int .i64 D]] w fun e w'=>e= .returned (.int .i64 r)∧Below w.heap.size w w':=by
 have ad:=Tryz.underlying42
 have HB:=zaa.mk (Below.refl w.heap.size w)
 have H:(if A.toList=([]:List UInt8) then(some 0) else(some (wrap64 (D-1))))=some r:=h
 clear h
 go_enter Tryz.func106,Tryz.ntmps106
 go_upto_if 5 with(first|((with_reducible refine zah (N:=1) rfl ?_);refine zag rfl (N:=1) rfl (cs:=#[.string A,.int .i64 D]) (t:=42) gz ?_;intro ab hg w2 hbox hb;have ac:=gN bz hg;have E:=zaa.mk hbox;replace HB:=bN bz hb;clear hb hbox hg;obtain⟨K,M,O,U⟩:=cz2 E))
 (try simp only[Act.put,List.setIfInBounds_toArray,List.set_cons_zero,List.set_cons_succ])
 by_cases c4:A.toList=([]:List UInt8)
 ·replace H:=hE H c4
  have B:(A.toList==([]:List UInt8))=true:=beq_iff_eq.mpr c4
  have I:(A.toList !=([]:List UInt8))=false:=bne_eq_false_iff_eq.mpr c4
  have J:A.toList.isEmpty=true:=by simpa using B
  clear c4
  try first|rw[B]|rw[I]|rw[J]
  obtain rfl:=Option.some.inj H
  go_wp2
  go_ret
  exact⟨ez,bz⟩
 replace H:=hN H c4
 have B:(A.toList==([]:List UInt8))=false:=beq_eq_false_iff_ne.mpr c4
 have I:(A.toList !=([]:List UInt8))=true:=bne_iff_ne.mpr c4
 have J:A.toList.isEmpty=false:=by simpa using B
 try first|rw[B]|rw[I]|rw[J]
 obtain rfl:=Option.some.inj H
 obtain⟨X,Y,Z,aa⟩:=cz2 E
 go_wp2
 go_ret
 exact⟨ez,bz⟩
def zaF.f(J:Int)(K:Int)(A:Int)(B:Int)(M:Int)(O:Bool)(U:Int):Option (ByteArray):=(zaU.f A 10).bind fun D=>((za7.f (⟨#[112]⟩:ByteArray) B 1).bind fun E=>((zas.f (([D,E]:List ByteArray))).bind fun I=>(some I)))
def zaF.T1:Bool×List (List Nat×List Nat):=(true,[([],[]),([0],[0]),([1],[1]),([],[]),([3],[3]),([4,2],[4]),([2,5],[2,5]),([6,5],[6]),([7,7,0,1,2,3,4,5,6,7],[7])])
def zaF.B1:List Nat:=[0,1,3,0,8,31,63,127,255]
theorem zaF.tab1:rtab .any (opsOf Tryz.f69 1)=zaF.T1:=by kernel_rfl
theorem zaF.bits1:waitsOk zaF.T1.2 zaF.B1=true:=by kernel_rfl
theorem zaF.calls(aa:Int)(ab:Int)(U:Int)(X:Int)(ac:Int)(ad:Bool)(ae:Int)(r:ByteArray)(w:World)(h:zaF.f aa ab U X ac ad ae=some r):
  Calls Tryz.prog 69 #[.agg #[.int .u64 aa,.int .i64 ab,.int .u64 U,.int .i64 X,.int .i64 ac,.bool ad,.int .i32 ae]] w fun e w'=>e= .returned (.string r)∧Below w.heap.size w w':=by
 have au:=Tryz.underlying74
 have HB:=zaa.mk (Below.refl w.heap.size w)
 have H:((zaU.f U 10).bind fun D=>((za7.f (⟨#[112]⟩:ByteArray) X 1).bind fun E=>((zas.f (([D,E]:List ByteArray))).bind fun Y=>(some Y))))=some r:=h
 clear h
 replace H:=bs H
 obtain⟨D,A2,H⟩:=H
 replace H:=bs H
 obtain⟨E,A3,H⟩:=H
 obtain⟨af,I⟩: ∃y_:List ByteArray,y_=(([D,E]:List ByteArray)):=⟨_,rfl⟩
 replace H:((zas.f af).bind fun Y=>(some Y))=some r:=by first|(rw[I];with_reducible exact H)|(have ai:=(Option.bind_some _ _).symm.trans H;rw[I];with_reducible exact ai)|(have ai:=(Option.bind_some _ _).symm.trans H;with_reducible exact ai)|with_reducible exact H|(rw[I];exact H)|exact H
 have ag:=zaa.mk I
 clear I
 replace H:=bs H
 obtain⟨Y,A4,H⟩:=H
 obtain rfl:=Option.some.inj H
 go_enter Tryz.func69,Tryz.ntmps69
 try go_wp2_with (first|((with_reducible refine zah (N:=1) rfl ?_);refine zag rfl (N:=1) rfl (cs:=#[.int .u64 aa,.int .i64 ab,.int .u64 U,.int .i64 X,.int .i64 ac,.bool ad,.int .i32 ae]) (t:=74) gz ?_;intro B hg w5 hbox hb;have an:=gN bz hg;have A:=zaa.mk hbox;replace HB:=bN bz hb;clear hb hbox hg))
 replace A:=zaa.mk (zao A.out)
 replace HB:=zaa.mk (zaH HB.out)
 refine za8 (n:=9) (S:=fun w'=>w'.cell? ⟨B,0,none⟩=some (.int .u64 aa)∧w'.cell? ⟨B,1,none⟩=some (.int .i64 ab)∧w'.cell? ⟨B,2,none⟩=some (.int .u64 U)∧w'.cell? ⟨B,3,none⟩=some (.int .i64 X)∧w'.cell? ⟨B,4,none⟩=some (.int .i64 ac)∧w'.cell? ⟨B,5,none⟩=some (.bool ad)∧w'.cell? ⟨B,6,none⟩=some (.int .i32 ae)) (ds:=[]) #[false,false,false,false,false,false,false,false,false] (by kernel_rfl) rfl rfl ⟨(zab A.out 0).trans rfl,(zab A.out 1).trans rfl,(zab A.out 2).trans rfl,(zab A.out 3).trans rfl,(zab A.out 4).trans rfl,(zab A.out 5).trans rfl,(zab A.out 6).trans rfl⟩ (fun hHeld=>?_);refine za0 zaF.tab1 zaF.bits1 (fun O HW_=>?_)
 generalize w5.drew=w6 at A HB hHeld ⊢
 refine pz (i:=0) (N:=3) O ?_
 refine pz (i:=3) (N:=6) O ?_
 refine tz (i:=1) (N:=4) rfl O HW_ hHeld (by(rintro w' ⟨s0,s1,s2,s3,s4,s5,s6⟩;go_simp;with_reducible rfl)) ?_
 refine tz (i:=4) (N:=7) rfl O HW_ hHeld (by(rintro w' ⟨s0,s1,s2,s3,s4,s5,s6⟩;go_simp;with_reducible rfl)) ?_
 refine oz (i:=2) (N:=some 5) O fun K hK=>?_
 refine gG Tryz.func110 (zaU.calls U 10 D _ A2.out) ?_
 intro w7 hb
 replace A:=kN (g:=B) hb bk
 replace HB:=bN bz hb
 clear hb
 refine hK.out _ _ (d7 A) (fun hHeld=>?_)
 clear hK K
 refine zaL (a':=?_) ?_ ?_
 rotate_left
 ·show Act.put _ (some 5) _=_
  simp only[Act.put,List.setIfInBounds_toArray,List.set_cons_zero,List.set_cons_succ,zar,zau]
  rfl
 refine oz (i:=5) (N:=some 8) O fun K hK=>?_
 refine gG Tryz.func111 (za7.calls (⟨#[112]⟩:ByteArray) X 1 E _ A3.out) ?_
 intro w8 hb
 replace A:=kN (g:=B) hb bk
 replace HB:=bN bz hb
 clear hb
 refine hK.out _ _ (d7 A) (fun hHeld=>?_)
 clear hK K
 refine zaL (a':=?_) ?_ ?_
 rotate_left
 ·show Act.put _ (some 8) _=_
  simp only[Act.put,List.setIfInBounds_toArray,List.set_cons_zero,List.set_cons_succ,zar,zau]
  rfl
 refine oz (i:=6) (N:=some 9) O fun K hK=>?_
 refine Kd.R_lit_step Kd.string _ 9 ?hg (N:=9) ?hd (xs:=([D,E]:List ByteArray)) (inner:=[.string D,.string E]) (ok:=fun _=>True) (okp:=fun _=>True) ?hr ?hp (fun _ hk=>hk) trivial (Below.refl _ _) (Nat.le_refl _) (by simp) ?_;(case hd=>rfl);(case hg=>rfl);(case hr=>first|(go_simp;done)|(go_simp;rfl));(case hp=>exact(Reps.one (show Kd.M Kd.string _ _ _ D [.string D] from rfl) (Reps.one (show Kd.M Kd.string _ _ _ E [.string E] from rfl) (Reps.none _ _))))
 intro av w9 Z hb hg_ hnew_
 clear hg_ hnew_
 (first|rw[←ag.out] at Z|(simp only[Int.reduceToNat] at Z;rw[←ag.out] at Z))
 have J:=zaa.mk (Kd.R_lower Z (zaG bz))
 replace A:=kN (g:=B) hb bk
 replace HB:=bN bz hb
 clear hb Z
 obtain⟨aj,ak,ah⟩:=Kd.R_slice J.out
 (first|subst ah|(injection ah with al ao am;have ap:=al.symm;have ar:=am.symm;clear al ao am;subst ap;subst ar))
 refine hK.out _ _ (d7 A) (fun hHeld=>?_)
 clear hK K
 refine zaL (a':=?_) ?_ ?_
 rotate_left
 ·show Act.put _ (some 9) _=_
  simp only[Act.put,List.setIfInBounds_toArray,List.set_cons_zero,List.set_cons_succ,zar,zau]
  rfl
 refine oz (i:=7) (N:=some 10) O fun K hK=>?_
 refine zc6 Tryz.func109 (by kernel_rfl) rfl #[.slice aj af.length ak] (by rfl) rfl rfl lz ?_
 with_reducible refine(zas.calls _ _ af Y _ ?side1 ?side2 A4.out).mono ?_
 (case side1=>repeat(first|exact(Kd.R_reads' J.out).2.2|(with_reducible refine Kd.C_alloc ?_ _)|(with_reducible refine Kd.C_drewN ?_ _)|(with_reducible refine Kd.C_drew ?_)))
 (case side2=>exact(Kd.R_reads' J.out).2.1)
 rintro e aw ⟨rfl,hb⟩
 refine⟨_,rfl,?_⟩
 replace J:=zaa.mk (Kd.R_below (by(with_reducible repeat(first|apply Kd.R_alloc|apply Kd.R_drewN|apply Kd.R_drew));exact J.out) hb)
 replace A:=kN (g:=B) hb bk
 replace HB:=bN bz hb
 (try clear hb)
 (try clear ax)
 (try clear hk)
 (try clear hi)
 refine hK.out _ _ (d7 A) (fun hHeld=>?_)
 clear hK K
 refine zaL (a':=?_) ?_ ?_
 rotate_left
 ·show Act.put _ (some 10) _=_
  simp only[Act.put,List.setIfInBounds_toArray,List.set_cons_zero,List.set_cons_succ,zar,zau]
  rfl
 refine pz (i:=8) (N:=2) O ?_
 refine dz O ?_
 try go_wp2
 go_ret
 exact⟨ez,bz⟩
def zaR.f(a0:Int):Option (ByteArray):=(zaU.f a0 16).bind fun A=>((strings_Repeat.f (⟨#[48]⟩:ByteArray) (wrap64 (16-(A.size:Int)))).bind fun B=>(if B.size+A.size≤9223372036854775807 then(some (B++A)) else(none)))
theorem zaR.calls(a0:Int)(r:ByteArray)(w:World)(h:zaR.f a0=some r):
  Calls Tryz.prog 113 #[.int .u64 a0] w fun e w'=>e= .returned (.string r)∧Below w.heap.size w w':=by
 have HB:=zaa.mk (Below.refl w.heap.size w)
 have H:((zaU.f a0 16).bind fun A=>((strings_Repeat.f (⟨#[48]⟩:ByteArray) (wrap64 (16-(A.size:Int)))).bind fun B=>(if B.size+A.size≤9223372036854775807 then(some (B++A)) else(none))))=some r:=h
 clear h
 replace H:=bs H
 obtain⟨A,A2,H⟩:=H
 replace H:=bs H
 obtain⟨B,A3,H⟩:=H
 by_cases c4:B.size+A.size≤9223372036854775807
 case neg=>
  replace H:=hN H c4
  exact absurd H (by simp)
 replace H:=hE H c4
 have D:=eq_true c4
 have E:=decide_eq_true c4
 have I:=eq_false (Nat.not_lt.2 c4)
 obtain rfl:=Option.some.inj H
 have hw_:wrap64 (16-(A.size:Int))=16-(A.size:Int):=by unfold wrap64;omega
 have A_:=A3.out
 clear A3
 rw[hw_] at A_
 clear hw_
 have A3:=zaa.mk A_
 clear A_
 go_enter Tryz.func113,Tryz.ntmps113
 go_wp2_with (first|((with_reducible refine zad (f:=110) rfl ?_);refine gB Tryz.func110 (zaU.calls a0 16 A _ A2.out) ?_;intro w5 hb;replace HB:=bN bz hb;clear hb)|((with_reducible refine zad (f:=46) rfl ?_);refine gB Tryz.func46 (strings_Repeat.calls (⟨#[48]⟩:ByteArray) (16-(A.size:Int)) B _ A3.out) ?_;intro w6 hb;replace HB:=bN bz hb;clear hb))
 go_ret
 exact⟨ez,bz⟩
end
end Go.Proofs.YtecpgdfnamkfdaaGreatDoor.Fn
end
